-- Laid by a program of this session (wip/myprint.py): the kit's print of the functions, contracts of our own among them.
import Derived.Test.YtdgmlakgnbmbbaaOFnExactValueSizex0
import Derived.Test.YtdgmlakgnbmbbaaOFnExactValueSizex4
import Derived.Test.YtdgmlakgnbmbbaaOFnExactValueSizex8
import Derived.Test.YtdgmlakgnbmbbaaOFnExactValueSizex9
import Derived.Test.YtdgmlakgnbmbbaaOFnExactValueSizex10
import Derived.Test.YtdgmlakgnbmbbaaOFnExactValueSizex11
import Derived.Test.YtdgmlakgnbmbbaaOFnExactValueSizex12
namespace Go.Proofs.Ytdgmlakgnbmbbaa.OFnExactValueSize
open Go.RowKit Go.Proofs.YtdgmlakgnbmbbaaW.PrintWords Go.Proofs.YtdgmlakgnbmbbaaW.PrintLast Go.Proofs.YtdgmlakgnbmbbaaW.PrintMore
attribute [local go_sem] max2_int min2_int max_two min_two max_three min_three max_four min_four   -- for this text's walks alone
set_option linter.unusedVariables false
set_option linter.unusedSimpArgs false

/-! ### laws_FnExactValueSize: function 6 -/
def laws_FnExactValueSize.f (k : Nat) (l0 : List (List (S124))) (a1_0 : ByteArray) (a1_1 : Int) (l1_2 : List (S39)) (l1_3 : List Int) : Option (Bool):=(laws_szRecordSS.f k l0 1048576).bind fun t304 => (if t304 < 0 then (some true) else ((laws_szValue.f k a1_0 a1_1 l1_2 l1_3 t304).bind fun t305 => (if t305 < 0 then (some true) else ((laws_toRecordSS.f k l0).bind fun t306 => ((laws_toValue.f k a1_0 a1_1 l1_2 l1_3).bind fun bt309 => ((spec_ValueSize.f k t306 bt309.1 bt309.2.1 bt309.2.2.1 bt309.2.2.2).bind fun t317 => ((laws_toRecordSS.f k l0).bind fun t318 => ((laws_toValue.f k a1_0 a1_1 l1_2 l1_3).bind fun bt321 => ((impl_ValueSize.f k t318 bt321.1 bt321.2.1 bt321.2.2.1 bt321.2.2.2).bind fun t330 => (if t330 = t317 then ((laws_toRecordSS.f k l0).bind fun t331 => ((laws_eqRecordSS.f k t318 t331).bind fun t334 => (if t334 = true then ((laws_toValue.f k a1_0 a1_1 l1_2 l1_3).bind fun bt335 => ((laws_eqValue.f k bt321.1 bt321.2.1 bt321.2.2.1 bt321.2.2.2 bt335.1 bt335.2.1 bt335.2.2.1 bt335.2.2.2).bind fun t343 => (if t343 = true then (some true) else (some false)))) else (some false)))) else (some false)))))))))))
theorem laws_FnExactValueSize.mono : ∀ a0 a1 a2 a3 a4 k,LeO (laws_FnExactValueSize.f k a0 a1 a2 a3 a4) (laws_FnExactValueSize.f (k + 1) a0 a1 a2 a3 a4):=by
 intro a0 a1 a2 a3 a4 k
 unfold laws_FnExactValueSize.f
 repeat' first
   | (with_reducible exact impl_ValueSize.mono _ _ _ _ _ _)
   | (with_reducible exact laws_eqRecordSS.mono _ _ _)
   | (with_reducible exact laws_eqValue.mono _ _ _ _ _ _ _ _ _)
   | (with_reducible exact laws_szRecordSS.mono _ _ _)
   | (with_reducible exact laws_szValue.mono _ _ _ _ _ _)
   | (with_reducible exact laws_toRecordSS.mono _ _)
   | (with_reducible exact laws_toValue.mono _ _ _ _ _)
   | (with_reducible exact spec_ValueSize.mono _ _ _ _ _ _)
   | (with_reducible exact LeO.refl _)
   | (with_reducible exact LeO.none _)
   | (with_reducible refine LeO.ite ?_ ?_)
   | (with_reducible refine LeO.bind ?_ (fun _ => ?_))
   | exact impl_ValueSize.mono _ _ _ _ _ _
   | exact laws_eqRecordSS.mono _ _ _
   | exact laws_eqValue.mono _ _ _ _ _ _ _ _ _
   | exact laws_szRecordSS.mono _ _ _
   | exact laws_szValue.mono _ _ _ _ _ _
   | exact laws_toRecordSS.mono _ _
   | exact laws_toValue.mono _ _ _ _ _
   | exact spec_ValueSize.mono _ _ _ _ _ _
   | exact LeO.none _
   | refine LeO.ite ?_ ?_
   | refine LeO.bind ?_ (fun _ => ?_)
set_option maxHeartbeats 8000000 in
set_option maxRecDepth 100000 in
theorem laws_FnExactValueSize.calls (k : Nat) (A0 : Option Addr) (c0 : Nat) (l0 : List (List (S124))) (a1_0 : ByteArray) (a1_1 : Int) (A1_2 : Option Addr) (c1_2 : Nat) (l1_2 : List (S39)) (A1_3 : Option Addr) (c1_3 : Nat) (l1_3 : List Int) (r : Bool) (w : World) (hr0 : Kd.C (Kd.slice 124 k124) w A0 l0.length l0) (hc0 : l0.length ≤ c0) (hr1_2 : Kd.C k39 w A1_2 l1_2.length l1_2) (hc1_2 : l1_2.length ≤ c1_2) (hr1_3 : Kd.C (Kd.int .i64) w A1_3 l1_3.length l1_3) (hc1_3 : l1_3.length ≤ c1_3) (h : laws_FnExactValueSize.f k l0 a1_0 a1_1 l1_2 l1_3 = some r) :
  Calls Try.prog 6 #[.slice A0 l0.length c0,.agg #[.string a1_0,.int .i64 a1_1,.slice A1_2 l1_2.length c1_2,.slice A1_3 l1_3.length c1_3]] w fun e w' => e = .returned (.bool r) ∧ Below w.heap.size w w':=by
 have hu39:=Try.underlying39
 have hu27:=Try.underlying27
 have HR0:=Aside0.mk hr0
 have HC0:=Aside0.mk hc0
 clear hr0 hc0
 have HR1_2:=Aside0.mk hr1_2
 have HC1_2:=Aside0.mk hc1_2
 clear hr1_2 hc1_2
 have HR1_3:=Aside0.mk hr1_3
 have HC1_3:=Aside0.mk hc1_3
 clear hr1_3 hc1_3
 have HB:=Aside0.mk (Below.refl w.heap.size w)
 have H : ((laws_szRecordSS.f k l0 1048576).bind fun t304 => (if t304 < 0 then (some true) else ((laws_szValue.f k a1_0 a1_1 l1_2 l1_3 t304).bind fun t305 => (if t305 < 0 then (some true) else ((laws_toRecordSS.f k l0).bind fun t306 => ((laws_toValue.f k a1_0 a1_1 l1_2 l1_3).bind fun bt309 => ((spec_ValueSize.f k t306 bt309.1 bt309.2.1 bt309.2.2.1 bt309.2.2.2).bind fun t317 => ((laws_toRecordSS.f k l0).bind fun t318 => ((laws_toValue.f k a1_0 a1_1 l1_2 l1_3).bind fun bt321 => ((impl_ValueSize.f k t318 bt321.1 bt321.2.1 bt321.2.2.1 bt321.2.2.2).bind fun t330 => (if t330 = t317 then ((laws_toRecordSS.f k l0).bind fun t331 => ((laws_eqRecordSS.f k t318 t331).bind fun t334 => (if t334 = true then ((laws_toValue.f k a1_0 a1_1 l1_2 l1_3).bind fun bt335 => ((laws_eqValue.f k bt321.1 bt321.2.1 bt321.2.2.1 bt321.2.2.2 bt335.1 bt335.2.1 bt335.2.2.1 bt335.2.2.2).bind fun t343 => (if t343 = true then (some true) else (some false)))) else (some false)))) else (some false)))))))))))) = some r:=h
 clear h
 replace H:=Option.bind_eq_some_iff.mp H
 obtain ⟨t304,A30,H⟩:=H
 replace H : (if t304 < 0 then (some true) else ((laws_szValue.f k a1_0 a1_1 l1_2 l1_3 t304).bind fun t305 => (if t305 < 0 then (some true) else ((laws_toRecordSS.f k l0).bind fun t306 => ((laws_toValue.f k a1_0 a1_1 l1_2 l1_3).bind fun bt309 => ((spec_ValueSize.f k t306 bt309.1 bt309.2.1 bt309.2.2.1 bt309.2.2.2).bind fun t317 => ((laws_toRecordSS.f k l0).bind fun t318 => ((laws_toValue.f k a1_0 a1_1 l1_2 l1_3).bind fun bt321 => ((impl_ValueSize.f k t318 bt321.1 bt321.2.1 bt321.2.2.1 bt321.2.2.2).bind fun t330 => (if t330 = t317 then ((laws_toRecordSS.f k l0).bind fun t331 => ((laws_eqRecordSS.f k t318 t331).bind fun t334 => (if t334 = true then ((laws_toValue.f k a1_0 a1_1 l1_2 l1_3).bind fun bt335 => ((laws_eqValue.f k bt321.1 bt321.2.1 bt321.2.2.1 bt321.2.2.2 bt335.1 bt335.2.1 bt335.2.2.1 bt335.2.2.2).bind fun t343 => (if t343 = true then (some true) else (some false)))) else (some false)))) else (some false))))))))))) = some r:=H
 have A3:=Aside0.mk A30
 clear A30
 by_cases c4 : t304 < 0
 ·rw [if_pos c4] at H
  have c4b0 : decide (t304 < 0) = true:=decide_eq_true c4
  clear c4
  obtain rfl:=Option.some.inj H
  go_enter Try.func6,Try.ntmps6
  go_wp2_with (first | ((with_reducible refine gate_dst (N:=3) rfl ?_);refine box_event ?hg (N:=3) ?hd (cs:=#[.string a1_0,.int .i64 a1_1,.slice A1_2 l1_2.length c1_2,.slice A1_3 l1_3.length c1_3]) (t:=39) ?hr ?_;(case hd => rfl);(case hg => rfl);(case hr => first | (go_simp;done) | (go_simp;rfl));intro gb303 hg w5 hbox hb;have n0_:=Up.BB HB hb;have n1_:=Aside0.mk (hbox);have n2_:=Aside0.mk ((by rw [hg];exact (below_size (Up.Bup HB)) : w.heap.size ≤ gb303));have n3_:=Aside0.mk ((by rw [hg];exact (below_size (Up.Bup HB)) : w.heap.size ≤ gb303));clear HB;have HB:=n0_;have BK303:=n1_;have GW303:=n2_;have GE303:=n3_;clear n0_ n1_ n2_ n3_;clear hb hbox hg) | ((with_reducible refine gate_callee (f:=18) rfl ?_);refine goesL_ (some 12) rfl rfl Try.func18 (by kernel_rfl) rfl #[.slice A0 l0.length c0,.int .i64 1048576] rfl (by (try simp only [List.map_toArray,List.map_cons,List.map_nil]);first | done | rfl | (simp only [List.length_drop,List.length_take];rfl)) ?_;(with_reducible refine (laws_szRecordSS.calls k _ _ l0 1048576 t304 _ ?side1 ?side2 A3.out).mono ?_);(case side1 => repeat (first | exact (Kd.C_below HR0.out HB.out) | (with_reducible refine Kd.C_alloc ?_ _) | (with_reducible refine Kd.C_drewN ?_ _) | (with_reducible refine Kd.C_drew ?_)));(case side2 => exact HC0.out);rintro e w6 ⟨rfl,hb⟩;refine ⟨_,rfl,?_⟩;have n0_:=Up.KB BK303 hb;have n1_:=Aside0.mk (below_step (by repeat (first | (with_reducible first | exact HB.out | apply below_alloc | apply pw_below_drewN | apply below_drew1 | refine below_set ?_ GE303.out) | exact HB.out)) hb);clear BK303;clear HB;have BK303:=n0_;have HB:=n1_;clear n0_ n1_;(try clear hb);(try clear hb2);(try clear hk);(try clear hi)))
  go_ret
  exact ⟨by first | rfl | (simp [errW_none,errW_some] <;> rfl) | (simp [*,errW_none,errW_some] <;> rfl),by repeat (first | (with_reducible first | exact HB.out | apply below_alloc | apply pw_below_drewN | apply below_drew1 | refine below_set ?_ GE303.out) | exact HB.out)⟩
 ·rw [if_neg c4] at H
  have c4b0 : decide (t304 < 0) = false:=decide_eq_false c4
  clear c4
  replace H:=Option.bind_eq_some_iff.mp H
  obtain ⟨t305,A70,H⟩:=H
  replace H : (if t305 < 0 then (some true) else ((laws_toRecordSS.f k l0).bind fun t306 => ((laws_toValue.f k a1_0 a1_1 l1_2 l1_3).bind fun bt309 => ((spec_ValueSize.f k t306 bt309.1 bt309.2.1 bt309.2.2.1 bt309.2.2.2).bind fun t317 => ((laws_toRecordSS.f k l0).bind fun t318 => ((laws_toValue.f k a1_0 a1_1 l1_2 l1_3).bind fun bt321 => ((impl_ValueSize.f k t318 bt321.1 bt321.2.1 bt321.2.2.1 bt321.2.2.2).bind fun t330 => (if t330 = t317 then ((laws_toRecordSS.f k l0).bind fun t331 => ((laws_eqRecordSS.f k t318 t331).bind fun t334 => (if t334 = true then ((laws_toValue.f k a1_0 a1_1 l1_2 l1_3).bind fun bt335 => ((laws_eqValue.f k bt321.1 bt321.2.1 bt321.2.2.1 bt321.2.2.2 bt335.1 bt335.2.1 bt335.2.2.1 bt335.2.2.2).bind fun t343 => (if t343 = true then (some true) else (some false)))) else (some false)))) else (some false))))))))) = some r:=H
  have A7:=Aside0.mk A70
  clear A70
  by_cases c8 : t305 < 0
  ·rw [if_pos c8] at H
   have c8b0 : decide (t305 < 0) = true:=decide_eq_true c8
   clear c8
   obtain rfl:=Option.some.inj H
   go_enter Try.func6,Try.ntmps6
   go_wp2_with (first | ((with_reducible refine gate_dst (N:=3) rfl ?_);refine box_event ?hg (N:=3) ?hd (cs:=#[.string a1_0,.int .i64 a1_1,.slice A1_2 l1_2.length c1_2,.slice A1_3 l1_3.length c1_3]) (t:=39) ?hr ?_;(case hd => rfl);(case hg => rfl);(case hr => first | (go_simp;done) | (go_simp;rfl));intro gb303 hg w9 hbox hb;have n0_:=Up.BB HB hb;have n1_:=Aside0.mk (hbox);have n2_:=Aside0.mk ((by rw [hg];exact (below_size (Up.Bup HB)) : w.heap.size ≤ gb303));have n3_:=Aside0.mk ((by rw [hg];exact (below_size (Up.Bup HB)) : w.heap.size ≤ gb303));clear HB;have HB:=n0_;have BK303:=n1_;have GW303:=n2_;have GE303:=n3_;clear n0_ n1_ n2_ n3_;clear hb hbox hg) | ((with_reducible refine gate_callee (f:=18) rfl ?_);refine goesL_ (some 12) rfl rfl Try.func18 (by kernel_rfl) rfl #[.slice A0 l0.length c0,.int .i64 1048576] rfl (by (try simp only [List.map_toArray,List.map_cons,List.map_nil]);first | done | rfl | (simp only [List.length_drop,List.length_take];rfl)) ?_;(with_reducible refine (laws_szRecordSS.calls k _ _ l0 1048576 t304 _ ?side1 ?side2 A3.out).mono ?_);(case side1 => repeat (first | exact (Kd.C_below HR0.out HB.out) | (with_reducible refine Kd.C_alloc ?_ _) | (with_reducible refine Kd.C_drewN ?_ _) | (with_reducible refine Kd.C_drew ?_)));(case side2 => exact HC0.out);rintro e w10 ⟨rfl,hb⟩;refine ⟨_,rfl,?_⟩;have n0_:=Up.KB BK303 hb;have n1_:=Aside0.mk (below_step (by repeat (first | (with_reducible first | exact HB.out | apply below_alloc | apply pw_below_drewN | apply below_drew1 | refine below_set ?_ GE303.out) | exact HB.out)) hb);clear BK303;clear HB;have BK303:=n0_;have HB:=n1_;clear n0_ n1_;(try clear hb);(try clear hb2);(try clear hk);(try clear hi);have hcz11_0 : w10.cell? ⟨gb303,0,none⟩ = some (.string a1_0):=(blk_cell BK303.out 0).trans rfl;have hcz11_1 : w10.cell? ⟨gb303,1,none⟩ = some (.int .i64 a1_1):=(blk_cell BK303.out 1).trans rfl;have hcz11_2 : w10.cell? ⟨gb303,2,none⟩ = some (.slice A1_2 l1_2.length c1_2):=(blk_cell BK303.out 2).trans rfl;have hcz11_3 : w10.cell? ⟨gb303,3,none⟩ = some (.slice A1_3 l1_3.length c1_3):=(blk_cell BK303.out 3).trans rfl;have hfz11_0:=blk_frozen BK303.out 0;have hfz11_1:=blk_frozen BK303.out 1;have hfz11_2:=blk_frozen BK303.out 2;have hfz11_3:=blk_frozen BK303.out 3) | ((with_reducible refine gate_callee (f:=19) rfl ?_);refine goesL_ (some 17) rfl rfl Try.func19 (by kernel_rfl) rfl #[.agg #[.string a1_0,.int .i64 a1_1,.slice A1_2 l1_2.length c1_2,.slice A1_3 l1_3.length c1_3],.int .i64 t304] rfl (by (try simp only [List.map_toArray,List.map_cons,List.map_nil]);first | done | rfl | (simp only [List.length_drop,List.length_take];rfl)) ?_;(with_reducible refine (laws_szValue.calls k a1_0 a1_1 _ _ l1_2 _ _ l1_3 t304 t305 _ ?side1 ?side2 ?side3 ?side4 A7.out).mono ?_);(case side1 => repeat (first | exact (Kd.C_below HR1_2.out HB.out) | (with_reducible refine Kd.C_alloc ?_ _) | (with_reducible refine Kd.C_drewN ?_ _) | (with_reducible refine Kd.C_drew ?_)));(case side2 => exact HC1_2.out);(case side3 => repeat (first | exact (Kd.C_below HR1_3.out HB.out) | (with_reducible refine Kd.C_alloc ?_ _) | (with_reducible refine Kd.C_drewN ?_ _) | (with_reducible refine Kd.C_drew ?_)));(case side4 => exact HC1_3.out);rintro e w12 ⟨rfl,hb⟩;refine ⟨_,rfl,?_⟩;have n0_:=Up.KB BK303 hb;have n1_:=Aside0.mk (below_step (by repeat (first | (with_reducible first | exact HB.out | apply below_alloc | apply pw_below_drewN | apply below_drew1 | refine below_set ?_ GE303.out) | exact HB.out)) hb);clear BK303;clear HB;have BK303:=n0_;have HB:=n1_;clear n0_ n1_;(try clear hb);(try clear hb2);(try clear hk);(try clear hi)))
   go_ret
   exact ⟨by first | rfl | (simp [errW_none,errW_some] <;> rfl) | (simp [*,errW_none,errW_some] <;> rfl),by repeat (first | (with_reducible first | exact HB.out | apply below_alloc | apply pw_below_drewN | apply below_drew1 | refine below_set ?_ GE303.out) | exact HB.out)⟩
  ·rw [if_neg c8] at H
   have c8b0 : decide (t305 < 0) = false:=decide_eq_false c8
   clear c8
   replace H:=Option.bind_eq_some_iff.mp H
   obtain ⟨t306,A130,H⟩:=H
   replace H : ((laws_toValue.f k a1_0 a1_1 l1_2 l1_3).bind fun bt309 => ((spec_ValueSize.f k t306 bt309.1 bt309.2.1 bt309.2.2.1 bt309.2.2.2).bind fun t317 => ((laws_toRecordSS.f k l0).bind fun t318 => ((laws_toValue.f k a1_0 a1_1 l1_2 l1_3).bind fun bt321 => ((impl_ValueSize.f k t318 bt321.1 bt321.2.1 bt321.2.2.1 bt321.2.2.2).bind fun t330 => (if t330 = t317 then ((laws_toRecordSS.f k l0).bind fun t331 => ((laws_eqRecordSS.f k t318 t331).bind fun t334 => (if t334 = true then ((laws_toValue.f k a1_0 a1_1 l1_2 l1_3).bind fun bt335 => ((laws_eqValue.f k bt321.1 bt321.2.1 bt321.2.2.1 bt321.2.2.2 bt335.1 bt335.2.1 bt335.2.2.1 bt335.2.2.2).bind fun t343 => (if t343 = true then (some true) else (some false)))) else (some false)))) else (some false))))))) = some r:=H
   have A13:=Aside0.mk A130
   clear A130
   replace H:=Option.bind_eq_some_iff.mp H
   obtain ⟨⟨t309,t310,t311,t314⟩,A140,H⟩:=H
   replace H : ((spec_ValueSize.f k t306 t309 t310 t311 t314).bind fun t317 => ((laws_toRecordSS.f k l0).bind fun t318 => ((laws_toValue.f k a1_0 a1_1 l1_2 l1_3).bind fun bt321 => ((impl_ValueSize.f k t318 bt321.1 bt321.2.1 bt321.2.2.1 bt321.2.2.2).bind fun t330 => (if t330 = t317 then ((laws_toRecordSS.f k l0).bind fun t331 => ((laws_eqRecordSS.f k t318 t331).bind fun t334 => (if t334 = true then ((laws_toValue.f k a1_0 a1_1 l1_2 l1_3).bind fun bt335 => ((laws_eqValue.f k bt321.1 bt321.2.1 bt321.2.2.1 bt321.2.2.2 bt335.1 bt335.2.1 bt335.2.2.1 bt335.2.2.2).bind fun t343 => (if t343 = true then (some true) else (some false)))) else (some false)))) else (some false)))))) = some r:=H
   have A14:=Aside0.mk A140
   clear A140
   replace H:=Option.bind_eq_some_iff.mp H
   obtain ⟨t317,A150,H⟩:=H
   replace H : ((laws_toRecordSS.f k l0).bind fun t318 => ((laws_toValue.f k a1_0 a1_1 l1_2 l1_3).bind fun bt321 => ((impl_ValueSize.f k t318 bt321.1 bt321.2.1 bt321.2.2.1 bt321.2.2.2).bind fun t330 => (if t330 = t317 then ((laws_toRecordSS.f k l0).bind fun t331 => ((laws_eqRecordSS.f k t318 t331).bind fun t334 => (if t334 = true then ((laws_toValue.f k a1_0 a1_1 l1_2 l1_3).bind fun bt335 => ((laws_eqValue.f k bt321.1 bt321.2.1 bt321.2.2.1 bt321.2.2.2 bt335.1 bt335.2.1 bt335.2.2.1 bt335.2.2.2).bind fun t343 => (if t343 = true then (some true) else (some false)))) else (some false)))) else (some false))))) = some r:=H
   have A15:=Aside0.mk A150
   clear A150
   replace H:=Option.bind_eq_some_iff.mp H
   obtain ⟨t318,A160,H⟩:=H
   replace H : ((laws_toValue.f k a1_0 a1_1 l1_2 l1_3).bind fun bt321 => ((impl_ValueSize.f k t318 bt321.1 bt321.2.1 bt321.2.2.1 bt321.2.2.2).bind fun t330 => (if t330 = t317 then ((laws_toRecordSS.f k l0).bind fun t331 => ((laws_eqRecordSS.f k t318 t331).bind fun t334 => (if t334 = true then ((laws_toValue.f k a1_0 a1_1 l1_2 l1_3).bind fun bt335 => ((laws_eqValue.f k bt321.1 bt321.2.1 bt321.2.2.1 bt321.2.2.2 bt335.1 bt335.2.1 bt335.2.2.1 bt335.2.2.2).bind fun t343 => (if t343 = true then (some true) else (some false)))) else (some false)))) else (some false)))) = some r:=H
   have A16:=Aside0.mk A160
   clear A160
   replace H:=Option.bind_eq_some_iff.mp H
   obtain ⟨⟨t321,t322,t323,t326⟩,A170,H⟩:=H
   replace H : ((impl_ValueSize.f k t318 t321 t322 t323 t326).bind fun t330 => (if t330 = t317 then ((laws_toRecordSS.f k l0).bind fun t331 => ((laws_eqRecordSS.f k t318 t331).bind fun t334 => (if t334 = true then ((laws_toValue.f k a1_0 a1_1 l1_2 l1_3).bind fun bt335 => ((laws_eqValue.f k t321 t322 t323 t326 bt335.1 bt335.2.1 bt335.2.2.1 bt335.2.2.2).bind fun t343 => (if t343 = true then (some true) else (some false)))) else (some false)))) else (some false))) = some r:=H
   have A17:=Aside0.mk A170
   clear A170
   replace H:=Option.bind_eq_some_iff.mp H
   obtain ⟨t330,A180,H⟩:=H
   replace H : (if t330 = t317 then ((laws_toRecordSS.f k l0).bind fun t331 => ((laws_eqRecordSS.f k t318 t331).bind fun t334 => (if t334 = true then ((laws_toValue.f k a1_0 a1_1 l1_2 l1_3).bind fun bt335 => ((laws_eqValue.f k t321 t322 t323 t326 bt335.1 bt335.2.1 bt335.2.2.1 bt335.2.2.2).bind fun t343 => (if t343 = true then (some true) else (some false)))) else (some false)))) else (some false)) = some r:=H
   have A18:=Aside0.mk A180
   clear A180
   by_cases c19 : t330 = t317
   ·rw [if_pos c19] at H
    have c19b0 : (t330 == t317) = true:=beq_iff_eq.mpr c19
    have c19b1 : (t330 != t317) = false:=bne_eq_false_iff_eq.mpr c19
    clear c19
    replace H:=Option.bind_eq_some_iff.mp H
    obtain ⟨t331,A200,H⟩:=H
    replace H : ((laws_eqRecordSS.f k t318 t331).bind fun t334 => (if t334 = true then ((laws_toValue.f k a1_0 a1_1 l1_2 l1_3).bind fun bt335 => ((laws_eqValue.f k t321 t322 t323 t326 bt335.1 bt335.2.1 bt335.2.2.1 bt335.2.2.2).bind fun t343 => (if t343 = true then (some true) else (some false)))) else (some false))) = some r:=H
    have A20:=Aside0.mk A200
    clear A200
    replace H:=Option.bind_eq_some_iff.mp H
    obtain ⟨t334,A210,H⟩:=H
    replace H : (if t334 = true then ((laws_toValue.f k a1_0 a1_1 l1_2 l1_3).bind fun bt335 => ((laws_eqValue.f k t321 t322 t323 t326 bt335.1 bt335.2.1 bt335.2.2.1 bt335.2.2.2).bind fun t343 => (if t343 = true then (some true) else (some false)))) else (some false)) = some r:=H
    have A21:=Aside0.mk A210
    clear A210
    by_cases c22 : t334 = true
    ·subst c22
     have H1 : ((laws_toValue.f k a1_0 a1_1 l1_2 l1_3).bind fun bt335 => ((laws_eqValue.f k t321 t322 t323 t326 bt335.1 bt335.2.1 bt335.2.2.1 bt335.2.2.2).bind fun t343 => (if t343 = true then (some true) else (some false)))) = some r:=by rw [if_pos rfl] at H;exact H
     clear H
     have H:=H1
     clear H1
     replace H:=Option.bind_eq_some_iff.mp H
     obtain ⟨⟨t335,t336,t337,t340⟩,A230,H⟩:=H
     replace H : ((laws_eqValue.f k t321 t322 t323 t326 t335 t336 t337 t340).bind fun t343 => (if t343 = true then (some true) else (some false))) = some r:=H
     have A23:=Aside0.mk A230
     clear A230
     replace H:=Option.bind_eq_some_iff.mp H
     obtain ⟨t343,A240,H⟩:=H
     replace H : (if t343 = true then (some true) else (some false)) = some r:=H
     have A24:=Aside0.mk A240
     clear A240
     by_cases c25 : t343 = true
     ·subst c25
      have H1 : (some true) = some r:=by rw [if_pos rfl] at H;exact H
      clear H
      have H:=H1
      clear H1
      obtain rfl:=Option.some.inj H
      go_enter Try.func6,Try.ntmps6
      try go_wp2_with (first | ((with_reducible refine gate_dst (N:=3) rfl ?_);refine box_event ?hg (N:=3) ?hd (cs:=#[.string a1_0,.int .i64 a1_1,.slice A1_2 l1_2.length c1_2,.slice A1_3 l1_3.length c1_3]) (t:=39) ?hr ?_;(case hd => rfl);(case hg => rfl);(case hr => first | (go_simp;done) | (go_simp;rfl));intro gb303 hg w26 hbox hb;have n0_:=Up.BB HB hb;have n1_:=Aside0.mk (hbox);have n2_:=Aside0.mk ((by rw [hg];exact (below_size (Up.Bup HB)) : w.heap.size ≤ gb303));have n3_:=Aside0.mk ((by rw [hg];exact (below_size (Up.Bup HB)) : w.heap.size ≤ gb303));clear HB;have HB:=n0_;have BK303:=n1_;have GW303:=n2_;have GE303:=n3_;clear n0_ n1_ n2_ n3_;clear hb hbox hg) | ((with_reducible refine gate_callee (f:=18) rfl ?_);refine goesL_ (some 12) rfl rfl Try.func18 (by kernel_rfl) rfl #[.slice A0 l0.length c0,.int .i64 1048576] rfl (by (try simp only [List.map_toArray,List.map_cons,List.map_nil]);first | done | rfl | (simp only [List.length_drop,List.length_take];rfl)) ?_;(with_reducible refine (laws_szRecordSS.calls k _ _ l0 1048576 t304 _ ?side1 ?side2 A3.out).mono ?_);(case side1 => repeat (first | exact (Kd.C_below HR0.out HB.out) | (with_reducible refine Kd.C_alloc ?_ _) | (with_reducible refine Kd.C_drewN ?_ _) | (with_reducible refine Kd.C_drew ?_)));(case side2 => exact HC0.out);rintro e w27 ⟨rfl,hb⟩;refine ⟨_,rfl,?_⟩;have n0_:=Up.KB BK303 hb;have n1_:=Aside0.mk (below_step (by repeat (first | (with_reducible first | exact HB.out | apply below_alloc | apply pw_below_drewN | apply below_drew1 | refine below_set ?_ GE303.out) | exact HB.out)) hb);clear BK303;clear HB;have BK303:=n0_;have HB:=n1_;clear n0_ n1_;(try clear hb);(try clear hb2);(try clear hk);(try clear hi);have hcz28_0 : w27.cell? ⟨gb303,0,none⟩ = some (.string a1_0):=(blk_cell BK303.out 0).trans rfl;have hcz28_1 : w27.cell? ⟨gb303,1,none⟩ = some (.int .i64 a1_1):=(blk_cell BK303.out 1).trans rfl;have hcz28_2 : w27.cell? ⟨gb303,2,none⟩ = some (.slice A1_2 l1_2.length c1_2):=(blk_cell BK303.out 2).trans rfl;have hcz28_3 : w27.cell? ⟨gb303,3,none⟩ = some (.slice A1_3 l1_3.length c1_3):=(blk_cell BK303.out 3).trans rfl;have hfz28_0:=blk_frozen BK303.out 0;have hfz28_1:=blk_frozen BK303.out 1;have hfz28_2:=blk_frozen BK303.out 2;have hfz28_3:=blk_frozen BK303.out 3) | ((with_reducible refine gate_callee (f:=19) rfl ?_);refine goesL_ (some 17) rfl rfl Try.func19 (by kernel_rfl) rfl #[.agg #[.string a1_0,.int .i64 a1_1,.slice A1_2 l1_2.length c1_2,.slice A1_3 l1_3.length c1_3],.int .i64 t304] rfl (by (try simp only [List.map_toArray,List.map_cons,List.map_nil]);first | done | rfl | (simp only [List.length_drop,List.length_take];rfl)) ?_;(with_reducible refine (laws_szValue.calls k a1_0 a1_1 _ _ l1_2 _ _ l1_3 t304 t305 _ ?side1 ?side2 ?side3 ?side4 A7.out).mono ?_);(case side1 => repeat (first | exact (Kd.C_below HR1_2.out HB.out) | (with_reducible refine Kd.C_alloc ?_ _) | (with_reducible refine Kd.C_drewN ?_ _) | (with_reducible refine Kd.C_drew ?_)));(case side2 => exact HC1_2.out);(case side3 => repeat (first | exact (Kd.C_below HR1_3.out HB.out) | (with_reducible refine Kd.C_alloc ?_ _) | (with_reducible refine Kd.C_drewN ?_ _) | (with_reducible refine Kd.C_drew ?_)));(case side4 => exact HC1_3.out);rintro e w29 ⟨rfl,hb⟩;refine ⟨_,rfl,?_⟩;have n0_:=Up.KB BK303 hb;have n1_:=Aside0.mk (below_step (by repeat (first | (with_reducible first | exact HB.out | apply below_alloc | apply pw_below_drewN | apply below_drew1 | refine below_set ?_ GE303.out) | exact HB.out)) hb);clear BK303;clear HB;have BK303:=n0_;have HB:=n1_;clear n0_ n1_;(try clear hb);(try clear hb2);(try clear hk);(try clear hi)))
      have n0_:=Aside0.mk (blk_drew BK303.out)
      have n1_:=Aside0.mk (below_drew1 HB.out)
      clear BK303
      clear HB
      have BK303:=n0_
      have HB:=n1_
      clear n0_ n1_
      refine start_ (n:=6) (S:=fun w' => w'.cell? ⟨gb303,0,none⟩ = some (.string a1_0) ∧ w'.cell? ⟨gb303,1,none⟩ = some (.int .i64 a1_1) ∧ w'.cell? ⟨gb303,2,none⟩ = some (.slice A1_2 l1_2.length c1_2) ∧ w'.cell? ⟨gb303,3,none⟩ = some (.slice A1_3 l1_3.length c1_3)) (ds:=[]) #[false,false,false,false,false,false] (by kernel_rfl) rfl rfl ⟨(blk_cell BK303.out 0).trans rfl,(blk_cell BK303.out 1).trans rfl,(blk_cell BK303.out 2).trans rfl,(blk_cell BK303.out 3).trans rfl⟩ (fun hHeld => ?_)
      generalize w29.drew = w30 at BK303 HB hHeld ⊢
      refine pure_ (i:=0) (N:=some 20) (v:=?_) (a':=?_) #[true,false,false,false,false,false] rfl rfl (by kernel_rfl) (fun _ _ _ h => h) (Or.inl ⟨by rfl,?_⟩) ?_ ?_
      rotate_left
      ·intro w'
       go_simp
       with_reducible rfl
      rotate_left
      ·simp only [Act.put,List.setIfInBounds_toArray,List.set_cons_zero,List.set_cons_succ,i64_w,i32_w]
       rfl
      refine take_ (i:=2) (N:=some 22) (v:=?_) (a':=?_) #[true,false,true,false,false,false] rfl rfl (by kernel_rfl) (fun _ _ _ h => h) (Or.inl ⟨by rfl,?_⟩) hHeld ?_ ?_
      rotate_left
      ·rintro w' ⟨s0,s1,s2,s3⟩
       go_simp
       with_reducible rfl
      rotate_left
      ·simp only [Act.put,List.setIfInBounds_toArray,List.set_cons_zero,List.set_cons_succ,i64_w,i32_w]
       rfl
      refine one_ (i:=1) (N:=some 21) #[true,true,true,false,false,false] rfl rfl (by kernel_rfl) (by decide) (fun K hK => ?_)
      refine goes_ Try.func21 (by kernel_rfl) rfl #[.slice A0 l0.length c0] (by rfl) rfl rfl (by (try simp only [List.map_toArray,List.map_cons,List.map_nil]);first | done | rfl | (simp only [List.length_drop,List.length_take];rfl)) ?_
      with_reducible refine (laws_toRecordSS.calls k _ _ l0 t306 _ ?side1 ?side2 A13.out).mono ?_
      (case side1 => repeat (first | exact (Kd.C_below HR0.out HB.out) | (with_reducible refine Kd.C_alloc ?_ _) | (with_reducible refine Kd.C_drewN ?_ _) | (with_reducible refine Kd.C_drew ?_)))
      (case side2 => exact HC0.out)
      rintro e w31 ⟨v307,rfl,ho0,hb⟩
      refine ⟨_,rfl,?_⟩
      have n0_:=Aside0.mk (Kd.R_lower ho0 (below_size (by repeat (first | (with_reducible first | exact HB.out | apply below_alloc | apply pw_below_drewN | apply below_drew1 | refine below_set ?_ GE303.out) | exact HB.out))))
      have n1_:=Up.KB BK303 hb
      have n2_:=Aside0.mk (below_step (by repeat (first | (with_reducible first | exact HB.out | apply below_alloc | apply pw_below_drewN | apply below_drew1 | refine below_set ?_ GE303.out) | exact HB.out)) hb)
      clear BK303
      clear HB
      have HO308:=n0_
      have BK303:=n1_
      have HB:=n2_
      clear n0_ n1_ n2_
      (try clear hb)
      (try clear hb2)
      (try clear hk)
      (try clear hi)
      (try clear ho0)
      refine hK.out _ _ ⟨(blk_cell BK303.out 0).trans rfl,(blk_cell BK303.out 1).trans rfl,(blk_cell BK303.out 2).trans rfl,(blk_cell BK303.out 3).trans rfl⟩ (fun hHeld => ?_)
      clear hK K
      refine norm_ (a':=?_) ?_ ?_
      rotate_left
      ·show Act.put _ (some 21) _ = _
       simp only [Act.put,List.setIfInBounds_toArray,List.set_cons_zero,List.set_cons_succ,i64_w,i32_w]
       rfl
      refine one_ (i:=3) (N:=some 23) #[true,true,true,true,false,false] rfl rfl (by kernel_rfl) (by decide) (fun K hK => ?_)
      refine goes_ Try.func22 (by kernel_rfl) rfl #[.agg #[.string a1_0,.int .i64 a1_1,.slice A1_2 l1_2.length c1_2,.slice A1_3 l1_3.length c1_3]] (by rfl) rfl rfl (by (try simp only [List.map_toArray,List.map_cons,List.map_nil]);first | done | rfl | (simp only [List.length_drop,List.length_take];rfl)) ?_
      with_reducible refine (laws_toValue.calls k a1_0 a1_1 _ _ l1_2 _ _ l1_3 t309 t310 t311 t314 _ ?side1 ?side2 ?side3 ?side4 A14.out).mono ?_
      (case side1 => repeat (first | exact (Kd.C_below HR1_2.out HB.out) | (with_reducible refine Kd.C_alloc ?_ _) | (with_reducible refine Kd.C_drewN ?_ _) | (with_reducible refine Kd.C_drew ?_)))
      (case side2 => exact HC1_2.out)
      (case side3 => repeat (first | exact (Kd.C_below HR1_3.out HB.out) | (with_reducible refine Kd.C_alloc ?_ _) | (with_reducible refine Kd.C_drewN ?_ _) | (with_reducible refine Kd.C_drew ?_)))
      (case side4 => exact HC1_3.out)
      rintro e w32 ⟨v312,v315,rfl,ho0,ho1,hb⟩
      refine ⟨_,rfl,?_⟩
      have n0_:=Up.RB HO308 hb
      have n1_:=Aside0.mk (Kd.R_lower ho0 (below_size (by repeat (first | (with_reducible first | exact HB.out | apply below_alloc | apply pw_below_drewN | apply below_drew1 | refine below_set ?_ GE303.out) | exact HB.out))))
      have n2_:=Aside0.mk (Kd.R_lower ho1 (below_size (by repeat (first | (with_reducible first | exact HB.out | apply below_alloc | apply pw_below_drewN | apply below_drew1 | refine below_set ?_ GE303.out) | exact HB.out))))
      have n3_:=Up.KB BK303 hb
      have n4_:=Aside0.mk (below_step (by repeat (first | (with_reducible first | exact HB.out | apply below_alloc | apply pw_below_drewN | apply below_drew1 | refine below_set ?_ GE303.out) | exact HB.out)) hb)
      clear HO308
      clear BK303
      clear HB
      have HO308:=n0_
      have HO313:=n1_
      have HO316:=n2_
      have BK303:=n3_
      have HB:=n4_
      clear n0_ n1_ n2_ n3_ n4_
      (try clear hb)
      (try clear hb2)
      (try clear hk)
      (try clear hi)
      (try clear ho0)
      (try clear ho1)
      obtain ⟨Ao33,co33,eo33⟩:=Kd.R_slice HO308.out
      (first | subst eo33 | (injection eo33 with f1_ f2_ f3_;have f4_:=f1_.symm;have f5_:=f3_.symm;clear f1_ f2_ f3_;subst f4_;subst f5_))
      obtain ⟨Ao34,co34,eo34⟩:=Kd.R_slice HO313.out
      (first | subst eo34 | (injection eo34 with f1_ f2_ f3_;have f4_:=f1_.symm;have f5_:=f3_.symm;clear f1_ f2_ f3_;subst f4_;subst f5_))
      obtain ⟨Ao35,co35,eo35⟩:=Kd.R_slice HO316.out
      (first | subst eo35 | (injection eo35 with f1_ f2_ f3_;have f4_:=f1_.symm;have f5_:=f3_.symm;clear f1_ f2_ f3_;subst f4_;subst f5_))
      refine hK.out _ _ ⟨(blk_cell BK303.out 0).trans rfl,(blk_cell BK303.out 1).trans rfl,(blk_cell BK303.out 2).trans rfl,(blk_cell BK303.out 3).trans rfl⟩ (fun hHeld => ?_)
      clear hK K
      refine norm_ (a':=?_) ?_ ?_
      rotate_left
      ·show Act.put _ (some 23) _ = _
       simp only [Act.put,List.setIfInBounds_toArray,List.set_cons_zero,List.set_cons_succ,i64_w,i32_w]
       rfl
      refine one_ (i:=4) (N:=some 24) #[true,true,true,true,true,false] rfl rfl (by kernel_rfl) (by decide) (fun K hK => ?_)
      refine goes_ Try.func13 (by kernel_rfl) rfl #[.slice Ao33 t306.length co33,.agg #[.string t309,.int .i64 t310,.slice Ao34 t311.length co34,.slice Ao35 t314.length co35]] (by rfl) rfl rfl (by (try simp only [List.map_toArray,List.map_cons,List.map_nil]);first | done | rfl | (simp only [List.length_drop,List.length_take];rfl)) ?_
      with_reducible refine (spec_ValueSize.calls k _ _ t306 t309 t310 _ _ t311 _ _ t314 t317 _ ?side1 ?side2 ?side3 ?side4 ?side5 ?side6 A15.out).mono ?_
      (case side1 => repeat (first | exact (Kd.R_reads' HO308.out).2.2 | (with_reducible refine Kd.C_alloc ?_ _) | (with_reducible refine Kd.C_drewN ?_ _) | (with_reducible refine Kd.C_drew ?_)))
      (case side2 => exact (Kd.R_reads' HO308.out).2.1)
      (case side3 => repeat (first | exact (Kd.R_reads' HO313.out).2.2 | (with_reducible refine Kd.C_alloc ?_ _) | (with_reducible refine Kd.C_drewN ?_ _) | (with_reducible refine Kd.C_drew ?_)))
      (case side4 => exact (Kd.R_reads' HO313.out).2.1)
      (case side5 => repeat (first | exact (Kd.R_reads' HO316.out).2.2 | (with_reducible refine Kd.C_alloc ?_ _) | (with_reducible refine Kd.C_drewN ?_ _) | (with_reducible refine Kd.C_drew ?_)))
      (case side6 => exact (Kd.R_reads' HO316.out).2.1)
      rintro e w36 ⟨rfl,hb⟩
      refine ⟨_,rfl,?_⟩
      have n0_:=Up.RB HO308 hb
      have n1_:=Up.RB HO313 hb
      have n2_:=Up.RB HO316 hb
      have n3_:=Up.KB BK303 hb
      have n4_:=Aside0.mk (below_step (by repeat (first | (with_reducible first | exact HB.out | apply below_alloc | apply pw_below_drewN | apply below_drew1 | refine below_set ?_ GE303.out) | exact HB.out)) hb)
      clear HO308
      clear HO313
      clear HO316
      clear BK303
      clear HB
      have HO308:=n0_
      have HO313:=n1_
      have HO316:=n2_
      have BK303:=n3_
      have HB:=n4_
      clear n0_ n1_ n2_ n3_ n4_
      (try clear hb)
      (try clear hb2)
      (try clear hk)
      (try clear hi)
      refine hK.out _ _ ⟨(blk_cell BK303.out 0).trans rfl,(blk_cell BK303.out 1).trans rfl,(blk_cell BK303.out 2).trans rfl,(blk_cell BK303.out 3).trans rfl⟩ (fun hHeld => ?_)
      clear hK K
      refine norm_ (a':=?_) ?_ ?_
      rotate_left
      ·show Act.put _ (some 24) _ = _
       simp only [Act.put,List.setIfInBounds_toArray,List.set_cons_zero,List.set_cons_succ,i64_w,i32_w]
       rfl
      refine pure_ (i:=5) (N:=some 6) (v:=?_) (a':=?_) #[true,true,true,true,true,true] rfl rfl (by kernel_rfl) (fun _ _ _ h => h) (Or.inl ⟨by rfl,?_⟩) ?_ ?_
      rotate_left
      ·intro w'
       go_simp
       with_reducible rfl
      rotate_left
      ·simp only [Act.put,List.setIfInBounds_toArray,List.set_cons_zero,List.set_cons_succ,i64_w,i32_w]
       rfl
      refine done_ (by kernel_rfl) ?_
      try go_wp2_with (first | ((with_reducible refine gate_callee (f:=21) rfl ?_);refine goesL_ (some 26) rfl rfl Try.func21 (by kernel_rfl) rfl #[.slice A0 l0.length c0] rfl (by (try simp only [List.map_toArray,List.map_cons,List.map_nil]);first | done | rfl | (simp only [List.length_drop,List.length_take];rfl)) ?_;(with_reducible refine (laws_toRecordSS.calls k _ _ l0 t318 _ ?side1 ?side2 A16.out).mono ?_);(case side1 => repeat (first | exact (Kd.C_below HR0.out HB.out) | (with_reducible refine Kd.C_alloc ?_ _) | (with_reducible refine Kd.C_drewN ?_ _) | (with_reducible refine Kd.C_drew ?_)));(case side2 => exact HC0.out);rintro e w37 ⟨v319,rfl,ho0,hb⟩;refine ⟨_,rfl,?_⟩;have n0_:=Aside0.mk (Kd.R_elder' (Up.Rup HO308) (Kd.R_base ho0) hb);have n1_:=Up.RB HO313 hb;have n2_:=Up.RB HO316 hb;have n3_:=Aside0.mk (Kd.R_lower (Kd.R_new' ho0 (Kd.R_lt (Up.Rup HO308))) (below_size (by repeat (first | (with_reducible first | exact HB.out | apply below_alloc | apply pw_below_drewN | apply below_drew1 | refine below_set ?_ GE303.out) | exact HB.out))));have n4_:=Up.KB BK303 hb;have n5_:=Aside0.mk (below_step (by repeat (first | (with_reducible first | exact HB.out | apply below_alloc | apply pw_below_drewN | apply below_drew1 | refine below_set ?_ GE303.out) | exact HB.out)) hb);clear HO308;clear HO313;clear HO316;clear BK303;clear HB;have HO308:=n0_;have HO313:=n1_;have HO316:=n2_;have HO320:=n3_;have BK303:=n4_;have HB:=n5_;clear n0_ n1_ n2_ n3_ n4_ n5_;(try clear hb);(try clear hb2);(try clear hk);(try clear hi);(try clear ho0);have hcz38_0 : w37.cell? ⟨gb303,0,none⟩ = some (.string a1_0):=(blk_cell BK303.out 0).trans rfl;have hcz38_1 : w37.cell? ⟨gb303,1,none⟩ = some (.int .i64 a1_1):=(blk_cell BK303.out 1).trans rfl;have hcz38_2 : w37.cell? ⟨gb303,2,none⟩ = some (.slice A1_2 l1_2.length c1_2):=(blk_cell BK303.out 2).trans rfl;have hcz38_3 : w37.cell? ⟨gb303,3,none⟩ = some (.slice A1_3 l1_3.length c1_3):=(blk_cell BK303.out 3).trans rfl;have hfz38_0:=blk_frozen BK303.out 0;have hfz38_1:=blk_frozen BK303.out 1;have hfz38_2:=blk_frozen BK303.out 2;have hfz38_3:=blk_frozen BK303.out 3) | ((with_reducible refine gate_callee (f:=22) rfl ?_);refine goesL_ (some 28) rfl rfl Try.func22 (by kernel_rfl) rfl #[.agg #[.string a1_0,.int .i64 a1_1,.slice A1_2 l1_2.length c1_2,.slice A1_3 l1_3.length c1_3]] rfl (by (try simp only [List.map_toArray,List.map_cons,List.map_nil]);first | done | rfl | (simp only [List.length_drop,List.length_take];rfl)) ?_;(with_reducible refine (laws_toValue.calls k a1_0 a1_1 _ _ l1_2 _ _ l1_3 t321 t322 t323 t326 _ ?side1 ?side2 ?side3 ?side4 A17.out).mono ?_);(case side1 => repeat (first | exact (Kd.C_below HR1_2.out HB.out) | (with_reducible refine Kd.C_alloc ?_ _) | (with_reducible refine Kd.C_drewN ?_ _) | (with_reducible refine Kd.C_drew ?_)));(case side2 => exact HC1_2.out);(case side3 => repeat (first | exact (Kd.C_below HR1_3.out HB.out) | (with_reducible refine Kd.C_alloc ?_ _) | (with_reducible refine Kd.C_drewN ?_ _) | (with_reducible refine Kd.C_drew ?_)));(case side4 => exact HC1_3.out);rintro e w39 ⟨v324,v327,rfl,ho0,ho1,hb⟩;refine ⟨_,rfl,?_⟩;have n0_:=Up.RB HO308 hb;have n1_:=Aside0.mk (Kd.R_mono (Kd.R_told (Kd.R_told (Kd.R_old (Up.Rup HO313) hb) (Kd.R_base ho0)) (Kd.R_base ho1)) (fun _ h_ => h_.1));have n2_:=Aside0.mk (Kd.R_elder' (Up.Rup HO316) (Kd.R_base ho1) hb);have n3_:=Up.RB HO320 hb;have n4_:=Aside0.mk (Kd.R_lower (Kd.R_new' (Kd.R_new' ho0 (Kd.R_lt (Up.Rup HO313))) (Kd.R_lt (Up.Rup HO316))) (below_size (by repeat (first | (with_reducible first | exact HB.out | apply below_alloc | apply pw_below_drewN | apply below_drew1 | refine below_set ?_ GE303.out) | exact HB.out))));have n5_:=Aside0.mk (Kd.R_lower (Kd.R_new' ho1 (Kd.R_lt (Up.Rup HO316))) (below_size (by repeat (first | (with_reducible first | exact HB.out | apply below_alloc | apply pw_below_drewN | apply below_drew1 | refine below_set ?_ GE303.out) | exact HB.out))));have n6_:=Up.KB BK303 hb;have n7_:=Aside0.mk (below_step (by repeat (first | (with_reducible first | exact HB.out | apply below_alloc | apply pw_below_drewN | apply below_drew1 | refine below_set ?_ GE303.out) | exact HB.out)) hb);clear HO308;clear HO313;clear HO316;clear HO320;clear BK303;clear HB;have HO308:=n0_;have HO313:=n1_;have HO316:=n2_;have HO320:=n3_;have HO325:=n4_;have HO328:=n5_;have BK303:=n6_;have HB:=n7_;clear n0_ n1_ n2_ n3_ n4_ n5_ n6_ n7_;(try clear hb);(try clear hb2);(try clear hk);(try clear hi);(try clear ho0);(try clear ho1)) | ((with_reducible refine gate_dst (N:=8) rfl ?_);refine box_event ?hg (N:=8) ?hd (cs:=#[.string (⟨#[]⟩ : ByteArray),.int .i64 0,.slice none 0 0,.slice none 0 0]) (t:=27) ?hr ?_;(case hd => rfl);(case hg => rfl);(case hr => first | (go_simp;done) | (go_simp;rfl));intro gb329 hg w40 hbox hb;have n0_:=Up.RB HO308 hb;have n1_:=Aside0.mk (Kd.R_below (Kd.R_elderB (Up.Rup HO313) gb329 (Nat.le_of_eq hg.symm)) hb);have n2_:=Up.RB HO316 hb;have n3_:=Up.RB HO320 hb;have n4_:=Aside0.mk (Kd.R_below (Kd.R_elderB (Up.Rup HO325) gb329 (Nat.le_of_eq hg.symm)) hb);have n5_:=Up.RB HO328 hb;have n6_:=Up.KB BK303 hb;have n7_:=Aside0.mk (below_step (by repeat (first | (with_reducible first | exact HB.out | apply below_alloc | apply pw_below_drewN | apply below_drew1 | refine below_set ?_ GE303.out) | exact HB.out)) hb);have n8_:=Aside0.mk (hbox);have n9_:=Aside0.mk ((by rw [hg];exact (below_size (by repeat (first | (with_reducible first | exact HB.out | apply below_alloc | apply pw_below_drewN | apply below_drew1 | refine below_set ?_ GE303.out) | exact HB.out))) : w.heap.size ≤ gb329));have n10_:=Aside0.mk ((by rw [hg];exact (below_size (by repeat (first | (with_reducible first | exact HB.out | apply below_alloc | apply pw_below_drewN | apply below_drew1 | refine below_set ?_ GE303.out) | exact HB.out))) : w.heap.size ≤ gb329));have n11_:=Aside0.mk ((by rw [hg];exact Nat.ne_of_lt (blk_lt (g:=gb303) (o:=.cells #[.string a1_0,.int .i64 a1_1,.slice A1_2 l1_2.length c1_2,.slice A1_3 l1_3.length c1_3] 39 (0,0)) (Up.Kup BK303)) : gb303 ≠ gb329));have n12_:=Aside0.mk ((by rw [hg];exact Nat.ne_of_gt (blk_lt (g:=gb303) (o:=.cells #[.string a1_0,.int .i64 a1_1,.slice A1_2 l1_2.length c1_2,.slice A1_3 l1_3.length c1_3] 39 (0,0)) (Up.Kup BK303)) : gb329 ≠ gb303));clear HO308;clear HO313;clear HO316;clear HO320;clear HO325;clear HO328;clear BK303;clear HB;have HO308:=n0_;have HO313:=n1_;have HO316:=n2_;have HO320:=n3_;have HO325:=n4_;have HO328:=n5_;have BK303:=n6_;have HB:=n7_;have BK329:=n8_;have GW329:=n9_;have GE329:=n10_;have NB303_329:=n11_;have NB329_303:=n12_;clear n0_ n1_ n2_ n3_ n4_ n5_ n6_ n7_ n8_ n9_ n10_ n11_ n12_;clear hb hbox hg;have hnb41:=NB329_303.out;have hnc41:=NB303_329.out;have hcz42_0 : w40.cell? ⟨gb329,0,none⟩ = some (.string (⟨#[]⟩ : ByteArray)):=(blk_cell BK329.out 0).trans rfl;have hcz42_1 : w40.cell? ⟨gb329,1,none⟩ = some (.int .i64 0):=(blk_cell BK329.out 1).trans rfl;have hcz42_2 : w40.cell? ⟨gb329,2,none⟩ = some (.slice none 0 0):=(blk_cell BK329.out 2).trans rfl;have hcz42_3 : w40.cell? ⟨gb329,3,none⟩ = some (.slice none 0 0):=(blk_cell BK329.out 3).trans rfl;have hfz42_0:=blk_frozen BK329.out 0;have hfz42_1:=blk_frozen BK329.out 1;have hfz42_2:=blk_frozen BK329.out 2;have hfz42_3:=blk_frozen BK329.out 3;obtain ⟨Ao43,co43,eo43⟩:=Kd.R_slice HO325.out;subst eo43;obtain ⟨Ao44,co44,eo44⟩:=Kd.R_slice HO328.out;subst eo44;obtain ⟨Ao45,co45,eo45⟩:=Kd.R_slice HO320.out;subst eo45) | ((with_reducible refine gate_callee (f:=12) rfl ?_);refine goesL_ (some 31) rfl rfl Try.func12 (by kernel_rfl) rfl #[.slice Ao45 t318.length co45,.agg #[.string t321,.int .i64 t322,.slice Ao43 t323.length co43,.slice Ao44 t326.length co44]] rfl (by (try simp only [List.map_toArray,List.map_cons,List.map_nil]);first | done | rfl | (simp only [List.length_drop,List.length_take];rfl)) ?_;(with_reducible refine (impl_ValueSize.calls k _ _ t318 t321 t322 _ _ t323 _ _ t326 t330 _ ?side1 ?side2 ?side3 ?side4 ?side5 ?side6 A18.out).mono ?_);(case side1 => refine (Kd.R_reads' (e:=82) (base:=w.heap.size) (ok:=fun k_ => (True ∧ some k_ ≠ (.slice Ao33 t306.length co33 : Value).ownBlock)) (n:=t318.length) (c:=co45) ?_).2.2;exact (by (with_reducible repeat (first | apply Kd.R_alloc | apply Kd.R_drewN | apply Kd.R_drew));exact (Kd.R_mono (Kd.R_far (p:=⟨gb329,3,none⟩) (Kd.R_far (p:=⟨gb329,2,none⟩) (Kd.R_far (p:=⟨gb329,1,none⟩) (Kd.R_far (p:=⟨gb329,0,none⟩) (Kd.R_types HO320.out BK329.out (by decide)) (fun _ hk => hk.2) (.string t321)) (fun _ hk => hk.2) (.int .i64 t322)) (fun _ hk => hk.2) (.slice Ao43 t323.length co43)) (fun _ hk => hk.2) (.slice Ao44 t326.length co44)) (fun _ h_ => h_.1))));(case side2 => exact (Kd.R_reads' HO320.out).2.1);(case side3 => refine (Kd.R_reads' (e:=27) (base:=w.heap.size) (ok:=fun k_ => (((some k_ ≠ (.slice Ao44 t326.length co44 : Value).ownBlock ∧ some k_ ≠ (.slice Ao34 t311.length co34 : Value).ownBlock) ∧ some k_ ≠ (.slice Ao35 t314.length co35 : Value).ownBlock) ∧ k_ ≠ gb329)) (n:=t323.length) (c:=co43) ?_).2.2;exact (by (with_reducible repeat (first | apply Kd.R_alloc | apply Kd.R_drewN | apply Kd.R_drew));exact (Kd.R_mono (Kd.R_far (p:=⟨gb329,3,none⟩) (Kd.R_far (p:=⟨gb329,2,none⟩) (Kd.R_far (p:=⟨gb329,1,none⟩) (Kd.R_far (p:=⟨gb329,0,none⟩) (Kd.R_mono HO325.out (fun k_ hk => (⟨hk,hk.2⟩ : _ ∧ k_ ≠ gb329))) (fun _ hk => hk.2) (.string t321)) (fun _ hk => hk.2) (.int .i64 t322)) (fun _ hk => hk.2) (.slice Ao43 t323.length co43)) (fun _ hk => hk.2) (.slice Ao44 t326.length co44)) (fun _ h_ => h_.1))));(case side4 => exact (Kd.R_reads' HO325.out).2.1);(case side5 => refine (Kd.R_reads' (e:=3) (base:=w.heap.size) (ok:=fun k_ => (True ∧ some k_ ≠ (.slice Ao35 t314.length co35 : Value).ownBlock)) (n:=t326.length) (c:=co44) ?_).2.2;exact (by (with_reducible repeat (first | apply Kd.R_alloc | apply Kd.R_drewN | apply Kd.R_drew));exact (Kd.R_mono (Kd.R_far (p:=⟨gb329,3,none⟩) (Kd.R_far (p:=⟨gb329,2,none⟩) (Kd.R_far (p:=⟨gb329,1,none⟩) (Kd.R_far (p:=⟨gb329,0,none⟩) (Kd.R_types HO328.out BK329.out (by decide)) (fun _ hk => hk.2) (.string t321)) (fun _ hk => hk.2) (.int .i64 t322)) (fun _ hk => hk.2) (.slice Ao43 t323.length co43)) (fun _ hk => hk.2) (.slice Ao44 t326.length co44)) (fun _ h_ => h_.1))));(case side6 => exact (Kd.R_reads' HO328.out).2.1);rintro e w46 ⟨rfl,hb⟩;refine ⟨_,rfl,?_⟩;have n0_:=Aside0.mk (Kd.R_below (by (with_reducible repeat (first | apply Kd.R_alloc | apply Kd.R_drewN | apply Kd.R_drew));exact (Kd.R_mono (Kd.R_far (p:=⟨gb329,3,none⟩) (Kd.R_far (p:=⟨gb329,2,none⟩) (Kd.R_far (p:=⟨gb329,1,none⟩) (Kd.R_far (p:=⟨gb329,0,none⟩) (Kd.R_types HO308.out BK329.out (by decide)) (fun _ hk => hk.2) (.string t321)) (fun _ hk => hk.2) (.int .i64 t322)) (fun _ hk => hk.2) (.slice Ao43 t323.length co43)) (fun _ hk => hk.2) (.slice Ao44 t326.length co44)) (fun _ h_ => h_.1))) hb);have n1_:=Aside0.mk (Kd.R_below (by (with_reducible repeat (first | apply Kd.R_alloc | apply Kd.R_drewN | apply Kd.R_drew));exact (Kd.R_mono (Kd.R_far (p:=⟨gb329,3,none⟩) (Kd.R_far (p:=⟨gb329,2,none⟩) (Kd.R_far (p:=⟨gb329,1,none⟩) (Kd.R_far (p:=⟨gb329,0,none⟩) (Kd.R_mono HO313.out (fun k_ hk => (⟨hk,hk.2⟩ : _ ∧ k_ ≠ gb329))) (fun _ hk => hk.2) (.string t321)) (fun _ hk => hk.2) (.int .i64 t322)) (fun _ hk => hk.2) (.slice Ao43 t323.length co43)) (fun _ hk => hk.2) (.slice Ao44 t326.length co44)) (fun _ h_ => h_.1))) hb);have n2_:=Aside0.mk (Kd.R_below (by (with_reducible repeat (first | apply Kd.R_alloc | apply Kd.R_drewN | apply Kd.R_drew));exact (Kd.R_mono (Kd.R_far (p:=⟨gb329,3,none⟩) (Kd.R_far (p:=⟨gb329,2,none⟩) (Kd.R_far (p:=⟨gb329,1,none⟩) (Kd.R_far (p:=⟨gb329,0,none⟩) (Kd.R_types HO316.out BK329.out (by decide)) (fun _ hk => hk.2) (.string t321)) (fun _ hk => hk.2) (.int .i64 t322)) (fun _ hk => hk.2) (.slice Ao43 t323.length co43)) (fun _ hk => hk.2) (.slice Ao44 t326.length co44)) (fun _ h_ => h_.1))) hb);have n3_:=Aside0.mk (Kd.R_below (by (with_reducible repeat (first | apply Kd.R_alloc | apply Kd.R_drewN | apply Kd.R_drew));exact (Kd.R_mono (Kd.R_far (p:=⟨gb329,3,none⟩) (Kd.R_far (p:=⟨gb329,2,none⟩) (Kd.R_far (p:=⟨gb329,1,none⟩) (Kd.R_far (p:=⟨gb329,0,none⟩) (Kd.R_types HO320.out BK329.out (by decide)) (fun _ hk => hk.2) (.string t321)) (fun _ hk => hk.2) (.int .i64 t322)) (fun _ hk => hk.2) (.slice Ao43 t323.length co43)) (fun _ hk => hk.2) (.slice Ao44 t326.length co44)) (fun _ h_ => h_.1))) hb);have n4_:=Aside0.mk (Kd.R_below (by (with_reducible repeat (first | apply Kd.R_alloc | apply Kd.R_drewN | apply Kd.R_drew));exact (Kd.R_mono (Kd.R_far (p:=⟨gb329,3,none⟩) (Kd.R_far (p:=⟨gb329,2,none⟩) (Kd.R_far (p:=⟨gb329,1,none⟩) (Kd.R_far (p:=⟨gb329,0,none⟩) (Kd.R_mono HO325.out (fun k_ hk => (⟨hk,hk.2⟩ : _ ∧ k_ ≠ gb329))) (fun _ hk => hk.2) (.string t321)) (fun _ hk => hk.2) (.int .i64 t322)) (fun _ hk => hk.2) (.slice Ao43 t323.length co43)) (fun _ hk => hk.2) (.slice Ao44 t326.length co44)) (fun _ h_ => h_.1))) hb);have n5_:=Aside0.mk (Kd.R_below (by (with_reducible repeat (first | apply Kd.R_alloc | apply Kd.R_drewN | apply Kd.R_drew));exact (Kd.R_mono (Kd.R_far (p:=⟨gb329,3,none⟩) (Kd.R_far (p:=⟨gb329,2,none⟩) (Kd.R_far (p:=⟨gb329,1,none⟩) (Kd.R_far (p:=⟨gb329,0,none⟩) (Kd.R_types HO328.out BK329.out (by decide)) (fun _ hk => hk.2) (.string t321)) (fun _ hk => hk.2) (.int .i64 t322)) (fun _ hk => hk.2) (.slice Ao43 t323.length co43)) (fun _ hk => hk.2) (.slice Ao44 t326.length co44)) (fun _ h_ => h_.1))) hb);have n6_:=Aside0.mk (blk_below (g:=gb303) (o:=.cells #[.string a1_0,.int .i64 a1_1,.slice A1_2 l1_2.length c1_2,.slice A1_3 l1_3.length c1_3] 39 (0,0)) (by (with_reducible repeat (first | refine blk_drewN ?_ _ | refine blk_drew ?_ | refine blk_alloc ?_ _));refine blk_far ?_ NB303_329.out _;(with_reducible repeat (first | refine blk_drewN ?_ _ | refine blk_drew ?_ | refine blk_alloc ?_ _));refine blk_far ?_ NB303_329.out _;(with_reducible repeat (first | refine blk_drewN ?_ _ | refine blk_drew ?_ | refine blk_alloc ?_ _));refine blk_far ?_ NB303_329.out _;(with_reducible repeat (first | refine blk_drewN ?_ _ | refine blk_drew ?_ | refine blk_alloc ?_ _));refine blk_far ?_ NB303_329.out _;(with_reducible repeat (first | refine blk_drewN ?_ _ | refine blk_drew ?_ | refine blk_alloc ?_ _));exact BK303.out) hb);have n7_:=Aside0.mk (blk_below (g:=gb329) (o:=.cells #[.string t321,.int .i64 t322,.slice Ao43 t323.length co43,.slice Ao44 t326.length co44] 27 (0,0)) (by (with_reducible repeat (first | refine blk_drewN ?_ _ | refine blk_drew ?_ | refine blk_alloc ?_ _));refine blk_put (cs:=#[.string t321,.int .i64 t322,.slice Ao43 t323.length co43,.slice none 0 0]) ?_ 3 _ rfl;(with_reducible repeat (first | refine blk_drewN ?_ _ | refine blk_drew ?_ | refine blk_alloc ?_ _));refine blk_put (cs:=#[.string t321,.int .i64 t322,.slice none 0 0,.slice none 0 0]) ?_ 2 _ rfl;(with_reducible repeat (first | refine blk_drewN ?_ _ | refine blk_drew ?_ | refine blk_alloc ?_ _));refine blk_put (cs:=#[.string t321,.int .i64 0,.slice none 0 0,.slice none 0 0]) ?_ 1 _ rfl;(with_reducible repeat (first | refine blk_drewN ?_ _ | refine blk_drew ?_ | refine blk_alloc ?_ _));refine blk_put (cs:=#[.string (⟨#[]⟩ : ByteArray),.int .i64 0,.slice none 0 0,.slice none 0 0]) ?_ 0 _ rfl;(with_reducible repeat (first | refine blk_drewN ?_ _ | refine blk_drew ?_ | refine blk_alloc ?_ _));exact BK329.out) hb);have n8_:=Aside0.mk (below_step (by repeat (first | (with_reducible first | exact HB.out | apply below_alloc | apply pw_below_drewN | apply below_drew1 | refine below_set ?_ GE303.out | refine below_set ?_ GE329.out) | exact HB.out)) hb);clear HO308;clear HO313;clear HO316;clear HO320;clear HO325;clear HO328;clear BK303;clear BK329;clear HB;have HO308:=n0_;have HO313:=n1_;have HO316:=n2_;have HO320:=n3_;have HO325:=n4_;have HO328:=n5_;have BK303:=n6_;have BK329:=n7_;have HB:=n8_;clear n0_ n1_ n2_ n3_ n4_ n5_ n6_ n7_ n8_;(try clear hb);(try clear hb2);(try clear hk);(try clear hi)) | ((with_reducible refine gate_callee (f:=21) rfl ?_);refine goesL_ (some 37) rfl rfl Try.func21 (by kernel_rfl) rfl #[.slice A0 l0.length c0] rfl (by (try simp only [List.map_toArray,List.map_cons,List.map_nil]);first | done | rfl | (simp only [List.length_drop,List.length_take];rfl)) ?_;(with_reducible refine (laws_toRecordSS.calls k _ _ l0 t331 _ ?side1 ?side2 A20.out).mono ?_);(case side1 => repeat (first | exact (Kd.C_below HR0.out HB.out) | (with_reducible refine Kd.C_alloc ?_ _) | (with_reducible refine Kd.C_drewN ?_ _) | (with_reducible refine Kd.C_drew ?_)));(case side2 => exact HC0.out);rintro e w47 ⟨v332,rfl,ho0,hb⟩;refine ⟨_,rfl,?_⟩;have n0_:=Aside0.mk (Kd.R_elder' (Up.Rup HO308) (Kd.R_base ho0) hb);have n1_:=Up.RB HO313 hb;have n2_:=Up.RB HO316 hb;have n3_:=Aside0.mk (Kd.R_elder' (Up.Rup HO320) (Kd.R_base ho0) hb);have n4_:=Up.RB HO325 hb;have n5_:=Up.RB HO328 hb;have n6_:=Aside0.mk (Kd.R_lower (Kd.R_new' (Kd.R_new' ho0 (Kd.R_lt (Up.Rup HO308))) (Kd.R_lt (Up.Rup HO320))) (below_size (by repeat (first | (with_reducible first | exact HB.out | apply below_alloc | apply pw_below_drewN | apply below_drew1 | refine below_set ?_ GE303.out | refine below_set ?_ GE329.out) | exact HB.out))));have n7_:=Up.KB BK303 hb;have n8_:=Up.KB BK329 hb;have n9_:=Aside0.mk (below_step (by repeat (first | (with_reducible first | exact HB.out | apply below_alloc | apply pw_below_drewN | apply below_drew1 | refine below_set ?_ GE303.out | refine below_set ?_ GE329.out) | exact HB.out)) hb);clear HO308;clear HO313;clear HO316;clear HO320;clear HO325;clear HO328;clear BK303;clear BK329;clear HB;have HO308:=n0_;have HO313:=n1_;have HO316:=n2_;have HO320:=n3_;have HO325:=n4_;have HO328:=n5_;have HO333:=n6_;have BK303:=n7_;have BK329:=n8_;have HB:=n9_;clear n0_ n1_ n2_ n3_ n4_ n5_ n6_ n7_ n8_ n9_;(try clear hb);(try clear hb2);(try clear hk);(try clear hi);(try clear ho0);obtain ⟨Ao48,co48,eo48⟩:=Kd.R_slice HO333.out;subst eo48) | ((with_reducible refine gate_callee (f:=23) rfl ?_);refine goesL_ (some 38) rfl rfl Try.func23 (by kernel_rfl) rfl #[.slice Ao45 t318.length co45,.slice Ao48 t331.length co48] rfl (by (try simp only [List.map_toArray,List.map_cons,List.map_nil]);first | done | rfl | (simp only [List.length_drop,List.length_take];rfl)) ?_;(with_reducible refine (laws_eqRecordSS.calls k _ _ t318 _ _ t331 true _ ?side1 ?side2 ?side3 ?side4 A21.out).mono ?_);(case side1 => repeat (first | exact (Kd.R_reads' HO320.out).2.2 | (with_reducible refine Kd.C_alloc ?_ _) | (with_reducible refine Kd.C_drewN ?_ _) | (with_reducible refine Kd.C_drew ?_)));(case side2 => exact (Kd.R_reads' HO320.out).2.1);(case side3 => repeat (first | exact (Kd.R_reads' HO333.out).2.2 | (with_reducible refine Kd.C_alloc ?_ _) | (with_reducible refine Kd.C_drewN ?_ _) | (with_reducible refine Kd.C_drew ?_)));(case side4 => exact (Kd.R_reads' HO333.out).2.1);rintro e w49 ⟨rfl,hb⟩;refine ⟨_,rfl,?_⟩;have n0_:=Up.RB HO308 hb;have n1_:=Up.RB HO313 hb;have n2_:=Up.RB HO316 hb;have n3_:=Up.RB HO320 hb;have n4_:=Up.RB HO325 hb;have n5_:=Up.RB HO328 hb;have n6_:=Up.RB HO333 hb;have n7_:=Up.KB BK303 hb;have n8_:=Up.KB BK329 hb;have n9_:=Aside0.mk (below_step (by repeat (first | (with_reducible first | exact HB.out | apply below_alloc | apply pw_below_drewN | apply below_drew1 | refine below_set ?_ GE303.out | refine below_set ?_ GE329.out) | exact HB.out)) hb);clear HO308;clear HO313;clear HO316;clear HO320;clear HO325;clear HO328;clear HO333;clear BK303;clear BK329;clear HB;have HO308:=n0_;have HO313:=n1_;have HO316:=n2_;have HO320:=n3_;have HO325:=n4_;have HO328:=n5_;have HO333:=n6_;have BK303:=n7_;have BK329:=n8_;have HB:=n9_;clear n0_ n1_ n2_ n3_ n4_ n5_ n6_ n7_ n8_ n9_;(try clear hb);(try clear hb2);(try clear hk);(try clear hi)))
      have n0_:=Aside0.mk (Kd.R_drew HO308.out)
      have n1_:=Aside0.mk (Kd.R_drew HO313.out)
      have n2_:=Aside0.mk (Kd.R_drew HO316.out)
      have n3_:=Aside0.mk (Kd.R_drew HO320.out)
      have n4_:=Aside0.mk (Kd.R_drew HO325.out)
      have n5_:=Aside0.mk (Kd.R_drew HO328.out)
      have n6_:=Aside0.mk (Kd.R_drew HO333.out)
      have n7_:=Aside0.mk (blk_drew BK303.out)
      have n8_:=Aside0.mk (blk_drew BK329.out)
      have n9_:=Aside0.mk (below_drew1 HB.out)
      clear HO308
      clear HO313
      clear HO316
      clear HO320
      clear HO325
      clear HO328
      clear HO333
      clear BK303
      clear BK329
      clear HB
      have HO308:=n0_
      have HO313:=n1_
      have HO316:=n2_
      have HO320:=n3_
      have HO325:=n4_
      have HO328:=n5_
      have HO333:=n6_
      have BK303:=n7_
      have BK329:=n8_
      have HB:=n9_
      clear n0_ n1_ n2_ n3_ n4_ n5_ n6_ n7_ n8_ n9_
      refine start_ (n:=5) (S:=fun w' => w'.cell? ⟨gb329,0,none⟩ = some (.string t321) ∧ w'.cell? ⟨gb329,1,none⟩ = some (.int .i64 t322) ∧ w'.cell? ⟨gb329,2,none⟩ = some (.slice Ao43 t323.length co43) ∧ w'.cell? ⟨gb329,3,none⟩ = some (.slice Ao44 t326.length co44) ∧ w'.cell? ⟨gb303,0,none⟩ = some (.string a1_0) ∧ w'.cell? ⟨gb303,1,none⟩ = some (.int .i64 a1_1) ∧ w'.cell? ⟨gb303,2,none⟩ = some (.slice A1_2 l1_2.length c1_2) ∧ w'.cell? ⟨gb303,3,none⟩ = some (.slice A1_3 l1_3.length c1_3)) (ds:=[]) #[false,false,false,false,false] (by kernel_rfl) rfl rfl ⟨(blk_cell BK329.out 0).trans rfl,(blk_cell BK329.out 1).trans rfl,(blk_cell BK329.out 2).trans rfl,(blk_cell BK329.out 3).trans rfl,(blk_cell BK303.out 0).trans rfl,(blk_cell BK303.out 1).trans rfl,(blk_cell BK303.out 2).trans rfl,(blk_cell BK303.out 3).trans rfl⟩ (fun hHeld => ?_)
      generalize w49.drew = w50 at HO308 HO313 HO316 HO320 HO325 HO328 HO333 BK303 BK329 HB hHeld ⊢
      refine take_ (i:=0) (N:=some 40) (v:=?_) (a':=?_) #[true,false,false,false,false] rfl rfl (by kernel_rfl) (fun _ _ _ h => h) (Or.inl ⟨by rfl,?_⟩) hHeld ?_ ?_
      rotate_left
      ·rintro w' ⟨s0,s1,s2,s3,s4,s5,s6,s7⟩
       go_simp
       with_reducible rfl
      rotate_left
      ·simp only [Act.put,List.setIfInBounds_toArray,List.set_cons_zero,List.set_cons_succ,i64_w,i32_w]
       rfl
      refine take_ (i:=1) (N:=some 41) (v:=?_) (a':=?_) #[true,true,false,false,false] rfl rfl (by kernel_rfl) (fun _ _ _ h => h) (Or.inl ⟨by rfl,?_⟩) hHeld ?_ ?_
      rotate_left
      ·rintro w' ⟨s0,s1,s2,s3,s4,s5,s6,s7⟩
       go_simp
       with_reducible rfl
      rotate_left
      ·simp only [Act.put,List.setIfInBounds_toArray,List.set_cons_zero,List.set_cons_succ,i64_w,i32_w]
       rfl
      refine one_ (i:=2) (N:=some 42) #[true,true,true,false,false] rfl rfl (by kernel_rfl) (by decide) (fun K hK => ?_)
      refine goes_ Try.func22 (by kernel_rfl) rfl #[.agg #[.string a1_0,.int .i64 a1_1,.slice A1_2 l1_2.length c1_2,.slice A1_3 l1_3.length c1_3]] (by rfl) rfl rfl (by (try simp only [List.map_toArray,List.map_cons,List.map_nil]);first | done | rfl | (simp only [List.length_drop,List.length_take];rfl)) ?_
      with_reducible refine (laws_toValue.calls k a1_0 a1_1 _ _ l1_2 _ _ l1_3 t335 t336 t337 t340 _ ?side1 ?side2 ?side3 ?side4 A23.out).mono ?_
      (case side1 => repeat (first | exact (Kd.C_below HR1_2.out HB.out) | (with_reducible refine Kd.C_alloc ?_ _) | (with_reducible refine Kd.C_drewN ?_ _) | (with_reducible refine Kd.C_drew ?_)))
      (case side2 => exact HC1_2.out)
      (case side3 => repeat (first | exact (Kd.C_below HR1_3.out HB.out) | (with_reducible refine Kd.C_alloc ?_ _) | (with_reducible refine Kd.C_drewN ?_ _) | (with_reducible refine Kd.C_drew ?_)))
      (case side4 => exact HC1_3.out)
      rintro e w51 ⟨v338,v341,rfl,ho0,ho1,hb⟩
      refine ⟨_,rfl,?_⟩
      have n0_:=Up.RB HO308 hb
      have n1_:=Aside0.mk (Kd.R_mono (Kd.R_told (Kd.R_told (Kd.R_old (Up.Rup HO313) hb) (Kd.R_base ho0)) (Kd.R_base ho1)) (fun _ h_ => h_.1))
      have n2_:=Aside0.mk (Kd.R_elder' (Up.Rup HO316) (Kd.R_base ho1) hb)
      have n3_:=Up.RB HO320 hb
      have n4_:=Aside0.mk (Kd.R_mono (Kd.R_told (Kd.R_told (Kd.R_old (Up.Rup HO325) hb) (Kd.R_base ho0)) (Kd.R_base ho1)) (fun _ h_ => h_.1))
      have n5_:=Aside0.mk (Kd.R_elder' (Up.Rup HO328) (Kd.R_base ho1) hb)
      have n6_:=Up.RB HO333 hb
      have n7_:=Aside0.mk (Kd.R_lower (Kd.R_newB (Kd.R_new' (Kd.R_new' (Kd.R_new' (Kd.R_new' ho0 (Kd.R_lt (Up.Rup HO313))) (Kd.R_lt (Up.Rup HO316))) (Kd.R_lt (Up.Rup HO325))) (Kd.R_lt (Up.Rup HO328))) (g:=gb329) (o:=.cells #[.string t321,.int .i64 t322,.slice Ao43 t323.length co43,.slice Ao44 t326.length co44] 27 (0,0)) (Up.Kup BK329)) (below_size (by repeat (first | (with_reducible first | exact HB.out | apply below_alloc | apply pw_below_drewN | apply below_drew1 | refine below_set ?_ GE303.out | refine below_set ?_ GE329.out) | exact HB.out))))
      have n8_:=Aside0.mk (Kd.R_lower (Kd.R_new' (Kd.R_new' ho1 (Kd.R_lt (Up.Rup HO316))) (Kd.R_lt (Up.Rup HO328))) (below_size (by repeat (first | (with_reducible first | exact HB.out | apply below_alloc | apply pw_below_drewN | apply below_drew1 | refine below_set ?_ GE303.out | refine below_set ?_ GE329.out) | exact HB.out))))
      have n9_:=Up.KB BK303 hb
      have n10_:=Up.KB BK329 hb
      have n11_:=Aside0.mk (below_step (by repeat (first | (with_reducible first | exact HB.out | apply below_alloc | apply pw_below_drewN | apply below_drew1 | refine below_set ?_ GE303.out | refine below_set ?_ GE329.out) | exact HB.out)) hb)
      clear HO308
      clear HO313
      clear HO316
      clear HO320
      clear HO325
      clear HO328
      clear HO333
      clear BK303
      clear BK329
      clear HB
      have HO308:=n0_
      have HO313:=n1_
      have HO316:=n2_
      have HO320:=n3_
      have HO325:=n4_
      have HO328:=n5_
      have HO333:=n6_
      have HO339:=n7_
      have HO342:=n8_
      have BK303:=n9_
      have BK329:=n10_
      have HB:=n11_
      clear n0_ n1_ n2_ n3_ n4_ n5_ n6_ n7_ n8_ n9_ n10_ n11_
      (try clear hb)
      (try clear hb2)
      (try clear hk)
      (try clear hi)
      (try clear ho0)
      (try clear ho1)
      obtain ⟨Ao52,co52,eo52⟩:=Kd.R_slice HO339.out
      (first | subst eo52 | (injection eo52 with f1_ f2_ f3_;have f4_:=f1_.symm;have f5_:=f3_.symm;clear f1_ f2_ f3_;subst f4_;subst f5_))
      obtain ⟨Ao53,co53,eo53⟩:=Kd.R_slice HO342.out
      (first | subst eo53 | (injection eo53 with f1_ f2_ f3_;have f4_:=f1_.symm;have f5_:=f3_.symm;clear f1_ f2_ f3_;subst f4_;subst f5_))
      refine hK.out _ _ ⟨(blk_cell BK329.out 0).trans rfl,(blk_cell BK329.out 1).trans rfl,(blk_cell BK329.out 2).trans rfl,(blk_cell BK329.out 3).trans rfl,(blk_cell BK303.out 0).trans rfl,(blk_cell BK303.out 1).trans rfl,(blk_cell BK303.out 2).trans rfl,(blk_cell BK303.out 3).trans rfl⟩ (fun hHeld => ?_)
      clear hK K
      refine norm_ (a':=?_) ?_ ?_
      rotate_left
      ·show Act.put _ (some 42) _ = _
       simp only [Act.put,List.setIfInBounds_toArray,List.set_cons_zero,List.set_cons_succ,i64_w,i32_w]
       rfl
      refine one_ (i:=3) (N:=some 43) #[true,true,true,true,false] rfl rfl (by kernel_rfl) (by decide) (fun K hK => ?_)
      refine goes_ Try.func24 (by kernel_rfl) rfl #[.agg #[.string t321,.int .i64 t322,.slice Ao43 t323.length co43,.slice Ao44 t326.length co44],.agg #[.string t335,.int .i64 t336,.slice Ao52 t337.length co52,.slice Ao53 t340.length co53]] (by rfl) rfl rfl (by (try simp only [List.map_toArray,List.map_cons,List.map_nil]);first | done | rfl | (simp only [List.length_drop,List.length_take];rfl)) ?_
      with_reducible refine (laws_eqValue.calls k t321 t322 _ _ t323 _ _ t326 t335 t336 _ _ t337 _ _ t340 true _ ?side1 ?side2 ?side3 ?side4 ?side5 ?side6 ?side7 ?side8 A24.out).mono ?_
      (case side1 => repeat (first | exact (Kd.R_reads' HO325.out).2.2 | (with_reducible refine Kd.C_alloc ?_ _) | (with_reducible refine Kd.C_drewN ?_ _) | (with_reducible refine Kd.C_drew ?_)))
      (case side2 => exact (Kd.R_reads' HO325.out).2.1)
      (case side3 => repeat (first | exact (Kd.R_reads' HO328.out).2.2 | (with_reducible refine Kd.C_alloc ?_ _) | (with_reducible refine Kd.C_drewN ?_ _) | (with_reducible refine Kd.C_drew ?_)))
      (case side4 => exact (Kd.R_reads' HO328.out).2.1)
      (case side5 => repeat (first | exact (Kd.R_reads' HO339.out).2.2 | (with_reducible refine Kd.C_alloc ?_ _) | (with_reducible refine Kd.C_drewN ?_ _) | (with_reducible refine Kd.C_drew ?_)))
      (case side6 => exact (Kd.R_reads' HO339.out).2.1)
      (case side7 => repeat (first | exact (Kd.R_reads' HO342.out).2.2 | (with_reducible refine Kd.C_alloc ?_ _) | (with_reducible refine Kd.C_drewN ?_ _) | (with_reducible refine Kd.C_drew ?_)))
      (case side8 => exact (Kd.R_reads' HO342.out).2.1)
      rintro e w54 ⟨rfl,hb⟩
      refine ⟨_,rfl,?_⟩
      have n0_:=Up.RB HO308 hb
      have n1_:=Up.RB HO313 hb
      have n2_:=Up.RB HO316 hb
      have n3_:=Up.RB HO320 hb
      have n4_:=Up.RB HO325 hb
      have n5_:=Up.RB HO328 hb
      have n6_:=Up.RB HO333 hb
      have n7_:=Up.RB HO339 hb
      have n8_:=Up.RB HO342 hb
      have n9_:=Up.KB BK303 hb
      have n10_:=Up.KB BK329 hb
      have n11_:=Aside0.mk (below_step (by repeat (first | (with_reducible first | exact HB.out | apply below_alloc | apply pw_below_drewN | apply below_drew1 | refine below_set ?_ GE303.out | refine below_set ?_ GE329.out) | exact HB.out)) hb)
      clear HO308
      clear HO313
      clear HO316
      clear HO320
      clear HO325
      clear HO328
      clear HO333
      clear HO339
      clear HO342
      clear BK303
      clear BK329
      clear HB
      have HO308:=n0_
      have HO313:=n1_
      have HO316:=n2_
      have HO320:=n3_
      have HO325:=n4_
      have HO328:=n5_
      have HO333:=n6_
      have HO339:=n7_
      have HO342:=n8_
      have BK303:=n9_
      have BK329:=n10_
      have HB:=n11_
      clear n0_ n1_ n2_ n3_ n4_ n5_ n6_ n7_ n8_ n9_ n10_ n11_
      (try clear hb)
      (try clear hb2)
      (try clear hk)
      (try clear hi)
      refine hK.out _ _ ⟨(blk_cell BK329.out 0).trans rfl,(blk_cell BK329.out 1).trans rfl,(blk_cell BK329.out 2).trans rfl,(blk_cell BK329.out 3).trans rfl,(blk_cell BK303.out 0).trans rfl,(blk_cell BK303.out 1).trans rfl,(blk_cell BK303.out 2).trans rfl,(blk_cell BK303.out 3).trans rfl⟩ (fun hHeld => ?_)
      clear hK K
      refine norm_ (a':=?_) ?_ ?_
      rotate_left
      ·show Act.put _ (some 43) _ = _
       simp only [Act.put,List.setIfInBounds_toArray,List.set_cons_zero,List.set_cons_succ,i64_w,i32_w]
       rfl
      refine pure_ (i:=4) (N:=some 44) (v:=?_) (a':=?_) #[true,true,true,true,true] rfl rfl (by kernel_rfl) (fun _ _ _ h => h) (Or.inl ⟨by rfl,?_⟩) ?_ ?_
      rotate_left
      ·intro w'
       go_simp
       with_reducible rfl
      rotate_left
      ·simp only [Act.put,List.setIfInBounds_toArray,List.set_cons_zero,List.set_cons_succ,i64_w,i32_w]
       rfl
      refine done_ (by kernel_rfl) ?_
      try go_wp2
      go_ret
      exact ⟨by first | rfl | (simp [errW_none,errW_some] <;> rfl) | (simp [*,errW_none,errW_some] <;> rfl),by repeat (first | (with_reducible first | exact HB.out | apply below_alloc | apply pw_below_drewN | apply below_drew1 | refine below_set ?_ GE303.out | refine below_set ?_ GE329.out) | exact HB.out)⟩
     ·replace c25:=Bool.eq_false_iff.mpr c25
      subst c25
      have H1 : (some false) = some r:=by rw [if_neg (show ¬ (false = true) by decide)] at H;exact H
      clear H
      have H:=H1
      clear H1
      obtain rfl:=Option.some.inj H
      go_enter Try.func6,Try.ntmps6
      try go_wp2_with (first | ((with_reducible refine gate_dst (N:=3) rfl ?_);refine box_event ?hg (N:=3) ?hd (cs:=#[.string a1_0,.int .i64 a1_1,.slice A1_2 l1_2.length c1_2,.slice A1_3 l1_3.length c1_3]) (t:=39) ?hr ?_;(case hd => rfl);(case hg => rfl);(case hr => first | (go_simp;done) | (go_simp;rfl));intro gb303 hg w55 hbox hb;have n0_:=Up.BB HB hb;have n1_:=Aside0.mk (hbox);have n2_:=Aside0.mk ((by rw [hg];exact (below_size (Up.Bup HB)) : w.heap.size ≤ gb303));have n3_:=Aside0.mk ((by rw [hg];exact (below_size (Up.Bup HB)) : w.heap.size ≤ gb303));clear HB;have HB:=n0_;have BK303:=n1_;have GW303:=n2_;have GE303:=n3_;clear n0_ n1_ n2_ n3_;clear hb hbox hg) | ((with_reducible refine gate_callee (f:=18) rfl ?_);refine goesL_ (some 12) rfl rfl Try.func18 (by kernel_rfl) rfl #[.slice A0 l0.length c0,.int .i64 1048576] rfl (by (try simp only [List.map_toArray,List.map_cons,List.map_nil]);first | done | rfl | (simp only [List.length_drop,List.length_take];rfl)) ?_;(with_reducible refine (laws_szRecordSS.calls k _ _ l0 1048576 t304 _ ?side1 ?side2 A3.out).mono ?_);(case side1 => repeat (first | exact (Kd.C_below HR0.out HB.out) | (with_reducible refine Kd.C_alloc ?_ _) | (with_reducible refine Kd.C_drewN ?_ _) | (with_reducible refine Kd.C_drew ?_)));(case side2 => exact HC0.out);rintro e w56 ⟨rfl,hb⟩;refine ⟨_,rfl,?_⟩;have n0_:=Up.KB BK303 hb;have n1_:=Aside0.mk (below_step (by repeat (first | (with_reducible first | exact HB.out | apply below_alloc | apply pw_below_drewN | apply below_drew1 | refine below_set ?_ GE303.out) | exact HB.out)) hb);clear BK303;clear HB;have BK303:=n0_;have HB:=n1_;clear n0_ n1_;(try clear hb);(try clear hb2);(try clear hk);(try clear hi);have hcz57_0 : w56.cell? ⟨gb303,0,none⟩ = some (.string a1_0):=(blk_cell BK303.out 0).trans rfl;have hcz57_1 : w56.cell? ⟨gb303,1,none⟩ = some (.int .i64 a1_1):=(blk_cell BK303.out 1).trans rfl;have hcz57_2 : w56.cell? ⟨gb303,2,none⟩ = some (.slice A1_2 l1_2.length c1_2):=(blk_cell BK303.out 2).trans rfl;have hcz57_3 : w56.cell? ⟨gb303,3,none⟩ = some (.slice A1_3 l1_3.length c1_3):=(blk_cell BK303.out 3).trans rfl;have hfz57_0:=blk_frozen BK303.out 0;have hfz57_1:=blk_frozen BK303.out 1;have hfz57_2:=blk_frozen BK303.out 2;have hfz57_3:=blk_frozen BK303.out 3) | ((with_reducible refine gate_callee (f:=19) rfl ?_);refine goesL_ (some 17) rfl rfl Try.func19 (by kernel_rfl) rfl #[.agg #[.string a1_0,.int .i64 a1_1,.slice A1_2 l1_2.length c1_2,.slice A1_3 l1_3.length c1_3],.int .i64 t304] rfl (by (try simp only [List.map_toArray,List.map_cons,List.map_nil]);first | done | rfl | (simp only [List.length_drop,List.length_take];rfl)) ?_;(with_reducible refine (laws_szValue.calls k a1_0 a1_1 _ _ l1_2 _ _ l1_3 t304 t305 _ ?side1 ?side2 ?side3 ?side4 A7.out).mono ?_);(case side1 => repeat (first | exact (Kd.C_below HR1_2.out HB.out) | (with_reducible refine Kd.C_alloc ?_ _) | (with_reducible refine Kd.C_drewN ?_ _) | (with_reducible refine Kd.C_drew ?_)));(case side2 => exact HC1_2.out);(case side3 => repeat (first | exact (Kd.C_below HR1_3.out HB.out) | (with_reducible refine Kd.C_alloc ?_ _) | (with_reducible refine Kd.C_drewN ?_ _) | (with_reducible refine Kd.C_drew ?_)));(case side4 => exact HC1_3.out);rintro e w58 ⟨rfl,hb⟩;refine ⟨_,rfl,?_⟩;have n0_:=Up.KB BK303 hb;have n1_:=Aside0.mk (below_step (by repeat (first | (with_reducible first | exact HB.out | apply below_alloc | apply pw_below_drewN | apply below_drew1 | refine below_set ?_ GE303.out) | exact HB.out)) hb);clear BK303;clear HB;have BK303:=n0_;have HB:=n1_;clear n0_ n1_;(try clear hb);(try clear hb2);(try clear hk);(try clear hi)))
      have n0_:=Aside0.mk (blk_drew BK303.out)
      have n1_:=Aside0.mk (below_drew1 HB.out)
      clear BK303
      clear HB
      have BK303:=n0_
      have HB:=n1_
      clear n0_ n1_
      refine start_ (n:=6) (S:=fun w' => w'.cell? ⟨gb303,0,none⟩ = some (.string a1_0) ∧ w'.cell? ⟨gb303,1,none⟩ = some (.int .i64 a1_1) ∧ w'.cell? ⟨gb303,2,none⟩ = some (.slice A1_2 l1_2.length c1_2) ∧ w'.cell? ⟨gb303,3,none⟩ = some (.slice A1_3 l1_3.length c1_3)) (ds:=[]) #[false,false,false,false,false,false] (by kernel_rfl) rfl rfl ⟨(blk_cell BK303.out 0).trans rfl,(blk_cell BK303.out 1).trans rfl,(blk_cell BK303.out 2).trans rfl,(blk_cell BK303.out 3).trans rfl⟩ (fun hHeld => ?_)
      generalize w58.drew = w59 at BK303 HB hHeld ⊢
      refine pure_ (i:=0) (N:=some 20) (v:=?_) (a':=?_) #[true,false,false,false,false,false] rfl rfl (by kernel_rfl) (fun _ _ _ h => h) (Or.inl ⟨by rfl,?_⟩) ?_ ?_
      rotate_left
      ·intro w'
       go_simp
       with_reducible rfl
      rotate_left
      ·simp only [Act.put,List.setIfInBounds_toArray,List.set_cons_zero,List.set_cons_succ,i64_w,i32_w]
       rfl
      refine take_ (i:=2) (N:=some 22) (v:=?_) (a':=?_) #[true,false,true,false,false,false] rfl rfl (by kernel_rfl) (fun _ _ _ h => h) (Or.inl ⟨by rfl,?_⟩) hHeld ?_ ?_
      rotate_left
      ·rintro w' ⟨s0,s1,s2,s3⟩
       go_simp
       with_reducible rfl
      rotate_left
      ·simp only [Act.put,List.setIfInBounds_toArray,List.set_cons_zero,List.set_cons_succ,i64_w,i32_w]
       rfl
      refine one_ (i:=1) (N:=some 21) #[true,true,true,false,false,false] rfl rfl (by kernel_rfl) (by decide) (fun K hK => ?_)
      refine goes_ Try.func21 (by kernel_rfl) rfl #[.slice A0 l0.length c0] (by rfl) rfl rfl (by (try simp only [List.map_toArray,List.map_cons,List.map_nil]);first | done | rfl | (simp only [List.length_drop,List.length_take];rfl)) ?_
      with_reducible refine (laws_toRecordSS.calls k _ _ l0 t306 _ ?side1 ?side2 A13.out).mono ?_
      (case side1 => repeat (first | exact (Kd.C_below HR0.out HB.out) | (with_reducible refine Kd.C_alloc ?_ _) | (with_reducible refine Kd.C_drewN ?_ _) | (with_reducible refine Kd.C_drew ?_)))
      (case side2 => exact HC0.out)
      rintro e w60 ⟨v307,rfl,ho0,hb⟩
      refine ⟨_,rfl,?_⟩
      have n0_:=Aside0.mk (Kd.R_lower ho0 (below_size (by repeat (first | (with_reducible first | exact HB.out | apply below_alloc | apply pw_below_drewN | apply below_drew1 | refine below_set ?_ GE303.out) | exact HB.out))))
      have n1_:=Up.KB BK303 hb
      have n2_:=Aside0.mk (below_step (by repeat (first | (with_reducible first | exact HB.out | apply below_alloc | apply pw_below_drewN | apply below_drew1 | refine below_set ?_ GE303.out) | exact HB.out)) hb)
      clear BK303
      clear HB
      have HO308:=n0_
      have BK303:=n1_
      have HB:=n2_
      clear n0_ n1_ n2_
      (try clear hb)
      (try clear hb2)
      (try clear hk)
      (try clear hi)
      (try clear ho0)
      refine hK.out _ _ ⟨(blk_cell BK303.out 0).trans rfl,(blk_cell BK303.out 1).trans rfl,(blk_cell BK303.out 2).trans rfl,(blk_cell BK303.out 3).trans rfl⟩ (fun hHeld => ?_)
      clear hK K
      refine norm_ (a':=?_) ?_ ?_
      rotate_left
      ·show Act.put _ (some 21) _ = _
       simp only [Act.put,List.setIfInBounds_toArray,List.set_cons_zero,List.set_cons_succ,i64_w,i32_w]
       rfl
      refine one_ (i:=3) (N:=some 23) #[true,true,true,true,false,false] rfl rfl (by kernel_rfl) (by decide) (fun K hK => ?_)
      refine goes_ Try.func22 (by kernel_rfl) rfl #[.agg #[.string a1_0,.int .i64 a1_1,.slice A1_2 l1_2.length c1_2,.slice A1_3 l1_3.length c1_3]] (by rfl) rfl rfl (by (try simp only [List.map_toArray,List.map_cons,List.map_nil]);first | done | rfl | (simp only [List.length_drop,List.length_take];rfl)) ?_
      with_reducible refine (laws_toValue.calls k a1_0 a1_1 _ _ l1_2 _ _ l1_3 t309 t310 t311 t314 _ ?side1 ?side2 ?side3 ?side4 A14.out).mono ?_
      (case side1 => repeat (first | exact (Kd.C_below HR1_2.out HB.out) | (with_reducible refine Kd.C_alloc ?_ _) | (with_reducible refine Kd.C_drewN ?_ _) | (with_reducible refine Kd.C_drew ?_)))
      (case side2 => exact HC1_2.out)
      (case side3 => repeat (first | exact (Kd.C_below HR1_3.out HB.out) | (with_reducible refine Kd.C_alloc ?_ _) | (with_reducible refine Kd.C_drewN ?_ _) | (with_reducible refine Kd.C_drew ?_)))
      (case side4 => exact HC1_3.out)
      rintro e w61 ⟨v312,v315,rfl,ho0,ho1,hb⟩
      refine ⟨_,rfl,?_⟩
      have n0_:=Up.RB HO308 hb
      have n1_:=Aside0.mk (Kd.R_lower ho0 (below_size (by repeat (first | (with_reducible first | exact HB.out | apply below_alloc | apply pw_below_drewN | apply below_drew1 | refine below_set ?_ GE303.out) | exact HB.out))))
      have n2_:=Aside0.mk (Kd.R_lower ho1 (below_size (by repeat (first | (with_reducible first | exact HB.out | apply below_alloc | apply pw_below_drewN | apply below_drew1 | refine below_set ?_ GE303.out) | exact HB.out))))
      have n3_:=Up.KB BK303 hb
      have n4_:=Aside0.mk (below_step (by repeat (first | (with_reducible first | exact HB.out | apply below_alloc | apply pw_below_drewN | apply below_drew1 | refine below_set ?_ GE303.out) | exact HB.out)) hb)
      clear HO308
      clear BK303
      clear HB
      have HO308:=n0_
      have HO313:=n1_
      have HO316:=n2_
      have BK303:=n3_
      have HB:=n4_
      clear n0_ n1_ n2_ n3_ n4_
      (try clear hb)
      (try clear hb2)
      (try clear hk)
      (try clear hi)
      (try clear ho0)
      (try clear ho1)
      obtain ⟨Ao62,co62,eo62⟩:=Kd.R_slice HO308.out
      (first | subst eo62 | (injection eo62 with f1_ f2_ f3_;have f4_:=f1_.symm;have f5_:=f3_.symm;clear f1_ f2_ f3_;subst f4_;subst f5_))
      obtain ⟨Ao63,co63,eo63⟩:=Kd.R_slice HO313.out
      (first | subst eo63 | (injection eo63 with f1_ f2_ f3_;have f4_:=f1_.symm;have f5_:=f3_.symm;clear f1_ f2_ f3_;subst f4_;subst f5_))
      obtain ⟨Ao64,co64,eo64⟩:=Kd.R_slice HO316.out
      (first | subst eo64 | (injection eo64 with f1_ f2_ f3_;have f4_:=f1_.symm;have f5_:=f3_.symm;clear f1_ f2_ f3_;subst f4_;subst f5_))
      refine hK.out _ _ ⟨(blk_cell BK303.out 0).trans rfl,(blk_cell BK303.out 1).trans rfl,(blk_cell BK303.out 2).trans rfl,(blk_cell BK303.out 3).trans rfl⟩ (fun hHeld => ?_)
      clear hK K
      refine norm_ (a':=?_) ?_ ?_
      rotate_left
      ·show Act.put _ (some 23) _ = _
       simp only [Act.put,List.setIfInBounds_toArray,List.set_cons_zero,List.set_cons_succ,i64_w,i32_w]
       rfl
      refine one_ (i:=4) (N:=some 24) #[true,true,true,true,true,false] rfl rfl (by kernel_rfl) (by decide) (fun K hK => ?_)
      refine goes_ Try.func13 (by kernel_rfl) rfl #[.slice Ao62 t306.length co62,.agg #[.string t309,.int .i64 t310,.slice Ao63 t311.length co63,.slice Ao64 t314.length co64]] (by rfl) rfl rfl (by (try simp only [List.map_toArray,List.map_cons,List.map_nil]);first | done | rfl | (simp only [List.length_drop,List.length_take];rfl)) ?_
      with_reducible refine (spec_ValueSize.calls k _ _ t306 t309 t310 _ _ t311 _ _ t314 t317 _ ?side1 ?side2 ?side3 ?side4 ?side5 ?side6 A15.out).mono ?_
      (case side1 => repeat (first | exact (Kd.R_reads' HO308.out).2.2 | (with_reducible refine Kd.C_alloc ?_ _) | (with_reducible refine Kd.C_drewN ?_ _) | (with_reducible refine Kd.C_drew ?_)))
      (case side2 => exact (Kd.R_reads' HO308.out).2.1)
      (case side3 => repeat (first | exact (Kd.R_reads' HO313.out).2.2 | (with_reducible refine Kd.C_alloc ?_ _) | (with_reducible refine Kd.C_drewN ?_ _) | (with_reducible refine Kd.C_drew ?_)))
      (case side4 => exact (Kd.R_reads' HO313.out).2.1)
      (case side5 => repeat (first | exact (Kd.R_reads' HO316.out).2.2 | (with_reducible refine Kd.C_alloc ?_ _) | (with_reducible refine Kd.C_drewN ?_ _) | (with_reducible refine Kd.C_drew ?_)))
      (case side6 => exact (Kd.R_reads' HO316.out).2.1)
      rintro e w65 ⟨rfl,hb⟩
      refine ⟨_,rfl,?_⟩
      have n0_:=Up.RB HO308 hb
      have n1_:=Up.RB HO313 hb
      have n2_:=Up.RB HO316 hb
      have n3_:=Up.KB BK303 hb
      have n4_:=Aside0.mk (below_step (by repeat (first | (with_reducible first | exact HB.out | apply below_alloc | apply pw_below_drewN | apply below_drew1 | refine below_set ?_ GE303.out) | exact HB.out)) hb)
      clear HO308
      clear HO313
      clear HO316
      clear BK303
      clear HB
      have HO308:=n0_
      have HO313:=n1_
      have HO316:=n2_
      have BK303:=n3_
      have HB:=n4_
      clear n0_ n1_ n2_ n3_ n4_
      (try clear hb)
      (try clear hb2)
      (try clear hk)
      (try clear hi)
      refine hK.out _ _ ⟨(blk_cell BK303.out 0).trans rfl,(blk_cell BK303.out 1).trans rfl,(blk_cell BK303.out 2).trans rfl,(blk_cell BK303.out 3).trans rfl⟩ (fun hHeld => ?_)
      clear hK K
      refine norm_ (a':=?_) ?_ ?_
      rotate_left
      ·show Act.put _ (some 24) _ = _
       simp only [Act.put,List.setIfInBounds_toArray,List.set_cons_zero,List.set_cons_succ,i64_w,i32_w]
       rfl
      refine pure_ (i:=5) (N:=some 6) (v:=?_) (a':=?_) #[true,true,true,true,true,true] rfl rfl (by kernel_rfl) (fun _ _ _ h => h) (Or.inl ⟨by rfl,?_⟩) ?_ ?_
      rotate_left
      ·intro w'
       go_simp
       with_reducible rfl
      rotate_left
      ·simp only [Act.put,List.setIfInBounds_toArray,List.set_cons_zero,List.set_cons_succ,i64_w,i32_w]
       rfl
      refine done_ (by kernel_rfl) ?_
      try go_wp2_with (first | ((with_reducible refine gate_callee (f:=21) rfl ?_);refine goesL_ (some 26) rfl rfl Try.func21 (by kernel_rfl) rfl #[.slice A0 l0.length c0] rfl (by (try simp only [List.map_toArray,List.map_cons,List.map_nil]);first | done | rfl | (simp only [List.length_drop,List.length_take];rfl)) ?_;(with_reducible refine (laws_toRecordSS.calls k _ _ l0 t318 _ ?side1 ?side2 A16.out).mono ?_);(case side1 => repeat (first | exact (Kd.C_below HR0.out HB.out) | (with_reducible refine Kd.C_alloc ?_ _) | (with_reducible refine Kd.C_drewN ?_ _) | (with_reducible refine Kd.C_drew ?_)));(case side2 => exact HC0.out);rintro e w66 ⟨v319,rfl,ho0,hb⟩;refine ⟨_,rfl,?_⟩;have n0_:=Aside0.mk (Kd.R_elder' (Up.Rup HO308) (Kd.R_base ho0) hb);have n1_:=Up.RB HO313 hb;have n2_:=Up.RB HO316 hb;have n3_:=Aside0.mk (Kd.R_lower (Kd.R_new' ho0 (Kd.R_lt (Up.Rup HO308))) (below_size (by repeat (first | (with_reducible first | exact HB.out | apply below_alloc | apply pw_below_drewN | apply below_drew1 | refine below_set ?_ GE303.out) | exact HB.out))));have n4_:=Up.KB BK303 hb;have n5_:=Aside0.mk (below_step (by repeat (first | (with_reducible first | exact HB.out | apply below_alloc | apply pw_below_drewN | apply below_drew1 | refine below_set ?_ GE303.out) | exact HB.out)) hb);clear HO308;clear HO313;clear HO316;clear BK303;clear HB;have HO308:=n0_;have HO313:=n1_;have HO316:=n2_;have HO320:=n3_;have BK303:=n4_;have HB:=n5_;clear n0_ n1_ n2_ n3_ n4_ n5_;(try clear hb);(try clear hb2);(try clear hk);(try clear hi);(try clear ho0);have hcz67_0 : w66.cell? ⟨gb303,0,none⟩ = some (.string a1_0):=(blk_cell BK303.out 0).trans rfl;have hcz67_1 : w66.cell? ⟨gb303,1,none⟩ = some (.int .i64 a1_1):=(blk_cell BK303.out 1).trans rfl;have hcz67_2 : w66.cell? ⟨gb303,2,none⟩ = some (.slice A1_2 l1_2.length c1_2):=(blk_cell BK303.out 2).trans rfl;have hcz67_3 : w66.cell? ⟨gb303,3,none⟩ = some (.slice A1_3 l1_3.length c1_3):=(blk_cell BK303.out 3).trans rfl;have hfz67_0:=blk_frozen BK303.out 0;have hfz67_1:=blk_frozen BK303.out 1;have hfz67_2:=blk_frozen BK303.out 2;have hfz67_3:=blk_frozen BK303.out 3) | ((with_reducible refine gate_callee (f:=22) rfl ?_);refine goesL_ (some 28) rfl rfl Try.func22 (by kernel_rfl) rfl #[.agg #[.string a1_0,.int .i64 a1_1,.slice A1_2 l1_2.length c1_2,.slice A1_3 l1_3.length c1_3]] rfl (by (try simp only [List.map_toArray,List.map_cons,List.map_nil]);first | done | rfl | (simp only [List.length_drop,List.length_take];rfl)) ?_;(with_reducible refine (laws_toValue.calls k a1_0 a1_1 _ _ l1_2 _ _ l1_3 t321 t322 t323 t326 _ ?side1 ?side2 ?side3 ?side4 A17.out).mono ?_);(case side1 => repeat (first | exact (Kd.C_below HR1_2.out HB.out) | (with_reducible refine Kd.C_alloc ?_ _) | (with_reducible refine Kd.C_drewN ?_ _) | (with_reducible refine Kd.C_drew ?_)));(case side2 => exact HC1_2.out);(case side3 => repeat (first | exact (Kd.C_below HR1_3.out HB.out) | (with_reducible refine Kd.C_alloc ?_ _) | (with_reducible refine Kd.C_drewN ?_ _) | (with_reducible refine Kd.C_drew ?_)));(case side4 => exact HC1_3.out);rintro e w68 ⟨v324,v327,rfl,ho0,ho1,hb⟩;refine ⟨_,rfl,?_⟩;have n0_:=Up.RB HO308 hb;have n1_:=Aside0.mk (Kd.R_mono (Kd.R_told (Kd.R_told (Kd.R_old (Up.Rup HO313) hb) (Kd.R_base ho0)) (Kd.R_base ho1)) (fun _ h_ => h_.1));have n2_:=Aside0.mk (Kd.R_elder' (Up.Rup HO316) (Kd.R_base ho1) hb);have n3_:=Up.RB HO320 hb;have n4_:=Aside0.mk (Kd.R_lower (Kd.R_new' (Kd.R_new' ho0 (Kd.R_lt (Up.Rup HO313))) (Kd.R_lt (Up.Rup HO316))) (below_size (by repeat (first | (with_reducible first | exact HB.out | apply below_alloc | apply pw_below_drewN | apply below_drew1 | refine below_set ?_ GE303.out) | exact HB.out))));have n5_:=Aside0.mk (Kd.R_lower (Kd.R_new' ho1 (Kd.R_lt (Up.Rup HO316))) (below_size (by repeat (first | (with_reducible first | exact HB.out | apply below_alloc | apply pw_below_drewN | apply below_drew1 | refine below_set ?_ GE303.out) | exact HB.out))));have n6_:=Up.KB BK303 hb;have n7_:=Aside0.mk (below_step (by repeat (first | (with_reducible first | exact HB.out | apply below_alloc | apply pw_below_drewN | apply below_drew1 | refine below_set ?_ GE303.out) | exact HB.out)) hb);clear HO308;clear HO313;clear HO316;clear HO320;clear BK303;clear HB;have HO308:=n0_;have HO313:=n1_;have HO316:=n2_;have HO320:=n3_;have HO325:=n4_;have HO328:=n5_;have BK303:=n6_;have HB:=n7_;clear n0_ n1_ n2_ n3_ n4_ n5_ n6_ n7_;(try clear hb);(try clear hb2);(try clear hk);(try clear hi);(try clear ho0);(try clear ho1)) | ((with_reducible refine gate_dst (N:=8) rfl ?_);refine box_event ?hg (N:=8) ?hd (cs:=#[.string (⟨#[]⟩ : ByteArray),.int .i64 0,.slice none 0 0,.slice none 0 0]) (t:=27) ?hr ?_;(case hd => rfl);(case hg => rfl);(case hr => first | (go_simp;done) | (go_simp;rfl));intro gb329 hg w69 hbox hb;have n0_:=Up.RB HO308 hb;have n1_:=Aside0.mk (Kd.R_below (Kd.R_elderB (Up.Rup HO313) gb329 (Nat.le_of_eq hg.symm)) hb);have n2_:=Up.RB HO316 hb;have n3_:=Up.RB HO320 hb;have n4_:=Aside0.mk (Kd.R_below (Kd.R_elderB (Up.Rup HO325) gb329 (Nat.le_of_eq hg.symm)) hb);have n5_:=Up.RB HO328 hb;have n6_:=Up.KB BK303 hb;have n7_:=Aside0.mk (below_step (by repeat (first | (with_reducible first | exact HB.out | apply below_alloc | apply pw_below_drewN | apply below_drew1 | refine below_set ?_ GE303.out) | exact HB.out)) hb);have n8_:=Aside0.mk (hbox);have n9_:=Aside0.mk ((by rw [hg];exact (below_size (by repeat (first | (with_reducible first | exact HB.out | apply below_alloc | apply pw_below_drewN | apply below_drew1 | refine below_set ?_ GE303.out) | exact HB.out))) : w.heap.size ≤ gb329));have n10_:=Aside0.mk ((by rw [hg];exact (below_size (by repeat (first | (with_reducible first | exact HB.out | apply below_alloc | apply pw_below_drewN | apply below_drew1 | refine below_set ?_ GE303.out) | exact HB.out))) : w.heap.size ≤ gb329));have n11_:=Aside0.mk ((by rw [hg];exact Nat.ne_of_lt (blk_lt (g:=gb303) (o:=.cells #[.string a1_0,.int .i64 a1_1,.slice A1_2 l1_2.length c1_2,.slice A1_3 l1_3.length c1_3] 39 (0,0)) (Up.Kup BK303)) : gb303 ≠ gb329));have n12_:=Aside0.mk ((by rw [hg];exact Nat.ne_of_gt (blk_lt (g:=gb303) (o:=.cells #[.string a1_0,.int .i64 a1_1,.slice A1_2 l1_2.length c1_2,.slice A1_3 l1_3.length c1_3] 39 (0,0)) (Up.Kup BK303)) : gb329 ≠ gb303));clear HO308;clear HO313;clear HO316;clear HO320;clear HO325;clear HO328;clear BK303;clear HB;have HO308:=n0_;have HO313:=n1_;have HO316:=n2_;have HO320:=n3_;have HO325:=n4_;have HO328:=n5_;have BK303:=n6_;have HB:=n7_;have BK329:=n8_;have GW329:=n9_;have GE329:=n10_;have NB303_329:=n11_;have NB329_303:=n12_;clear n0_ n1_ n2_ n3_ n4_ n5_ n6_ n7_ n8_ n9_ n10_ n11_ n12_;clear hb hbox hg;have hnb70:=NB329_303.out;have hnc70:=NB303_329.out;have hcz71_0 : w69.cell? ⟨gb329,0,none⟩ = some (.string (⟨#[]⟩ : ByteArray)):=(blk_cell BK329.out 0).trans rfl;have hcz71_1 : w69.cell? ⟨gb329,1,none⟩ = some (.int .i64 0):=(blk_cell BK329.out 1).trans rfl;have hcz71_2 : w69.cell? ⟨gb329,2,none⟩ = some (.slice none 0 0):=(blk_cell BK329.out 2).trans rfl;have hcz71_3 : w69.cell? ⟨gb329,3,none⟩ = some (.slice none 0 0):=(blk_cell BK329.out 3).trans rfl;have hfz71_0:=blk_frozen BK329.out 0;have hfz71_1:=blk_frozen BK329.out 1;have hfz71_2:=blk_frozen BK329.out 2;have hfz71_3:=blk_frozen BK329.out 3;obtain ⟨Ao72,co72,eo72⟩:=Kd.R_slice HO325.out;subst eo72;obtain ⟨Ao73,co73,eo73⟩:=Kd.R_slice HO328.out;subst eo73;obtain ⟨Ao74,co74,eo74⟩:=Kd.R_slice HO320.out;subst eo74) | ((with_reducible refine gate_callee (f:=12) rfl ?_);refine goesL_ (some 31) rfl rfl Try.func12 (by kernel_rfl) rfl #[.slice Ao74 t318.length co74,.agg #[.string t321,.int .i64 t322,.slice Ao72 t323.length co72,.slice Ao73 t326.length co73]] rfl (by (try simp only [List.map_toArray,List.map_cons,List.map_nil]);first | done | rfl | (simp only [List.length_drop,List.length_take];rfl)) ?_;(with_reducible refine (impl_ValueSize.calls k _ _ t318 t321 t322 _ _ t323 _ _ t326 t330 _ ?side1 ?side2 ?side3 ?side4 ?side5 ?side6 A18.out).mono ?_);(case side1 => refine (Kd.R_reads' (e:=82) (base:=w.heap.size) (ok:=fun k_ => (True ∧ some k_ ≠ (.slice Ao62 t306.length co62 : Value).ownBlock)) (n:=t318.length) (c:=co74) ?_).2.2;exact (by (with_reducible repeat (first | apply Kd.R_alloc | apply Kd.R_drewN | apply Kd.R_drew));exact (Kd.R_mono (Kd.R_far (p:=⟨gb329,3,none⟩) (Kd.R_far (p:=⟨gb329,2,none⟩) (Kd.R_far (p:=⟨gb329,1,none⟩) (Kd.R_far (p:=⟨gb329,0,none⟩) (Kd.R_types HO320.out BK329.out (by decide)) (fun _ hk => hk.2) (.string t321)) (fun _ hk => hk.2) (.int .i64 t322)) (fun _ hk => hk.2) (.slice Ao72 t323.length co72)) (fun _ hk => hk.2) (.slice Ao73 t326.length co73)) (fun _ h_ => h_.1))));(case side2 => exact (Kd.R_reads' HO320.out).2.1);(case side3 => refine (Kd.R_reads' (e:=27) (base:=w.heap.size) (ok:=fun k_ => (((some k_ ≠ (.slice Ao73 t326.length co73 : Value).ownBlock ∧ some k_ ≠ (.slice Ao63 t311.length co63 : Value).ownBlock) ∧ some k_ ≠ (.slice Ao64 t314.length co64 : Value).ownBlock) ∧ k_ ≠ gb329)) (n:=t323.length) (c:=co72) ?_).2.2;exact (by (with_reducible repeat (first | apply Kd.R_alloc | apply Kd.R_drewN | apply Kd.R_drew));exact (Kd.R_mono (Kd.R_far (p:=⟨gb329,3,none⟩) (Kd.R_far (p:=⟨gb329,2,none⟩) (Kd.R_far (p:=⟨gb329,1,none⟩) (Kd.R_far (p:=⟨gb329,0,none⟩) (Kd.R_mono HO325.out (fun k_ hk => (⟨hk,hk.2⟩ : _ ∧ k_ ≠ gb329))) (fun _ hk => hk.2) (.string t321)) (fun _ hk => hk.2) (.int .i64 t322)) (fun _ hk => hk.2) (.slice Ao72 t323.length co72)) (fun _ hk => hk.2) (.slice Ao73 t326.length co73)) (fun _ h_ => h_.1))));(case side4 => exact (Kd.R_reads' HO325.out).2.1);(case side5 => refine (Kd.R_reads' (e:=3) (base:=w.heap.size) (ok:=fun k_ => (True ∧ some k_ ≠ (.slice Ao64 t314.length co64 : Value).ownBlock)) (n:=t326.length) (c:=co73) ?_).2.2;exact (by (with_reducible repeat (first | apply Kd.R_alloc | apply Kd.R_drewN | apply Kd.R_drew));exact (Kd.R_mono (Kd.R_far (p:=⟨gb329,3,none⟩) (Kd.R_far (p:=⟨gb329,2,none⟩) (Kd.R_far (p:=⟨gb329,1,none⟩) (Kd.R_far (p:=⟨gb329,0,none⟩) (Kd.R_types HO328.out BK329.out (by decide)) (fun _ hk => hk.2) (.string t321)) (fun _ hk => hk.2) (.int .i64 t322)) (fun _ hk => hk.2) (.slice Ao72 t323.length co72)) (fun _ hk => hk.2) (.slice Ao73 t326.length co73)) (fun _ h_ => h_.1))));(case side6 => exact (Kd.R_reads' HO328.out).2.1);rintro e w75 ⟨rfl,hb⟩;refine ⟨_,rfl,?_⟩;have n0_:=Aside0.mk (Kd.R_below (by (with_reducible repeat (first | apply Kd.R_alloc | apply Kd.R_drewN | apply Kd.R_drew));exact (Kd.R_mono (Kd.R_far (p:=⟨gb329,3,none⟩) (Kd.R_far (p:=⟨gb329,2,none⟩) (Kd.R_far (p:=⟨gb329,1,none⟩) (Kd.R_far (p:=⟨gb329,0,none⟩) (Kd.R_types HO308.out BK329.out (by decide)) (fun _ hk => hk.2) (.string t321)) (fun _ hk => hk.2) (.int .i64 t322)) (fun _ hk => hk.2) (.slice Ao72 t323.length co72)) (fun _ hk => hk.2) (.slice Ao73 t326.length co73)) (fun _ h_ => h_.1))) hb);have n1_:=Aside0.mk (Kd.R_below (by (with_reducible repeat (first | apply Kd.R_alloc | apply Kd.R_drewN | apply Kd.R_drew));exact (Kd.R_mono (Kd.R_far (p:=⟨gb329,3,none⟩) (Kd.R_far (p:=⟨gb329,2,none⟩) (Kd.R_far (p:=⟨gb329,1,none⟩) (Kd.R_far (p:=⟨gb329,0,none⟩) (Kd.R_mono HO313.out (fun k_ hk => (⟨hk,hk.2⟩ : _ ∧ k_ ≠ gb329))) (fun _ hk => hk.2) (.string t321)) (fun _ hk => hk.2) (.int .i64 t322)) (fun _ hk => hk.2) (.slice Ao72 t323.length co72)) (fun _ hk => hk.2) (.slice Ao73 t326.length co73)) (fun _ h_ => h_.1))) hb);have n2_:=Aside0.mk (Kd.R_below (by (with_reducible repeat (first | apply Kd.R_alloc | apply Kd.R_drewN | apply Kd.R_drew));exact (Kd.R_mono (Kd.R_far (p:=⟨gb329,3,none⟩) (Kd.R_far (p:=⟨gb329,2,none⟩) (Kd.R_far (p:=⟨gb329,1,none⟩) (Kd.R_far (p:=⟨gb329,0,none⟩) (Kd.R_types HO316.out BK329.out (by decide)) (fun _ hk => hk.2) (.string t321)) (fun _ hk => hk.2) (.int .i64 t322)) (fun _ hk => hk.2) (.slice Ao72 t323.length co72)) (fun _ hk => hk.2) (.slice Ao73 t326.length co73)) (fun _ h_ => h_.1))) hb);have n3_:=Aside0.mk (Kd.R_below (by (with_reducible repeat (first | apply Kd.R_alloc | apply Kd.R_drewN | apply Kd.R_drew));exact (Kd.R_mono (Kd.R_far (p:=⟨gb329,3,none⟩) (Kd.R_far (p:=⟨gb329,2,none⟩) (Kd.R_far (p:=⟨gb329,1,none⟩) (Kd.R_far (p:=⟨gb329,0,none⟩) (Kd.R_types HO320.out BK329.out (by decide)) (fun _ hk => hk.2) (.string t321)) (fun _ hk => hk.2) (.int .i64 t322)) (fun _ hk => hk.2) (.slice Ao72 t323.length co72)) (fun _ hk => hk.2) (.slice Ao73 t326.length co73)) (fun _ h_ => h_.1))) hb);have n4_:=Aside0.mk (Kd.R_below (by (with_reducible repeat (first | apply Kd.R_alloc | apply Kd.R_drewN | apply Kd.R_drew));exact (Kd.R_mono (Kd.R_far (p:=⟨gb329,3,none⟩) (Kd.R_far (p:=⟨gb329,2,none⟩) (Kd.R_far (p:=⟨gb329,1,none⟩) (Kd.R_far (p:=⟨gb329,0,none⟩) (Kd.R_mono HO325.out (fun k_ hk => (⟨hk,hk.2⟩ : _ ∧ k_ ≠ gb329))) (fun _ hk => hk.2) (.string t321)) (fun _ hk => hk.2) (.int .i64 t322)) (fun _ hk => hk.2) (.slice Ao72 t323.length co72)) (fun _ hk => hk.2) (.slice Ao73 t326.length co73)) (fun _ h_ => h_.1))) hb);have n5_:=Aside0.mk (Kd.R_below (by (with_reducible repeat (first | apply Kd.R_alloc | apply Kd.R_drewN | apply Kd.R_drew));exact (Kd.R_mono (Kd.R_far (p:=⟨gb329,3,none⟩) (Kd.R_far (p:=⟨gb329,2,none⟩) (Kd.R_far (p:=⟨gb329,1,none⟩) (Kd.R_far (p:=⟨gb329,0,none⟩) (Kd.R_types HO328.out BK329.out (by decide)) (fun _ hk => hk.2) (.string t321)) (fun _ hk => hk.2) (.int .i64 t322)) (fun _ hk => hk.2) (.slice Ao72 t323.length co72)) (fun _ hk => hk.2) (.slice Ao73 t326.length co73)) (fun _ h_ => h_.1))) hb);have n6_:=Aside0.mk (blk_below (g:=gb303) (o:=.cells #[.string a1_0,.int .i64 a1_1,.slice A1_2 l1_2.length c1_2,.slice A1_3 l1_3.length c1_3] 39 (0,0)) (by (with_reducible repeat (first | refine blk_drewN ?_ _ | refine blk_drew ?_ | refine blk_alloc ?_ _));refine blk_far ?_ NB303_329.out _;(with_reducible repeat (first | refine blk_drewN ?_ _ | refine blk_drew ?_ | refine blk_alloc ?_ _));refine blk_far ?_ NB303_329.out _;(with_reducible repeat (first | refine blk_drewN ?_ _ | refine blk_drew ?_ | refine blk_alloc ?_ _));refine blk_far ?_ NB303_329.out _;(with_reducible repeat (first | refine blk_drewN ?_ _ | refine blk_drew ?_ | refine blk_alloc ?_ _));refine blk_far ?_ NB303_329.out _;(with_reducible repeat (first | refine blk_drewN ?_ _ | refine blk_drew ?_ | refine blk_alloc ?_ _));exact BK303.out) hb);have n7_:=Aside0.mk (blk_below (g:=gb329) (o:=.cells #[.string t321,.int .i64 t322,.slice Ao72 t323.length co72,.slice Ao73 t326.length co73] 27 (0,0)) (by (with_reducible repeat (first | refine blk_drewN ?_ _ | refine blk_drew ?_ | refine blk_alloc ?_ _));refine blk_put (cs:=#[.string t321,.int .i64 t322,.slice Ao72 t323.length co72,.slice none 0 0]) ?_ 3 _ rfl;(with_reducible repeat (first | refine blk_drewN ?_ _ | refine blk_drew ?_ | refine blk_alloc ?_ _));refine blk_put (cs:=#[.string t321,.int .i64 t322,.slice none 0 0,.slice none 0 0]) ?_ 2 _ rfl;(with_reducible repeat (first | refine blk_drewN ?_ _ | refine blk_drew ?_ | refine blk_alloc ?_ _));refine blk_put (cs:=#[.string t321,.int .i64 0,.slice none 0 0,.slice none 0 0]) ?_ 1 _ rfl;(with_reducible repeat (first | refine blk_drewN ?_ _ | refine blk_drew ?_ | refine blk_alloc ?_ _));refine blk_put (cs:=#[.string (⟨#[]⟩ : ByteArray),.int .i64 0,.slice none 0 0,.slice none 0 0]) ?_ 0 _ rfl;(with_reducible repeat (first | refine blk_drewN ?_ _ | refine blk_drew ?_ | refine blk_alloc ?_ _));exact BK329.out) hb);have n8_:=Aside0.mk (below_step (by repeat (first | (with_reducible first | exact HB.out | apply below_alloc | apply pw_below_drewN | apply below_drew1 | refine below_set ?_ GE303.out | refine below_set ?_ GE329.out) | exact HB.out)) hb);clear HO308;clear HO313;clear HO316;clear HO320;clear HO325;clear HO328;clear BK303;clear BK329;clear HB;have HO308:=n0_;have HO313:=n1_;have HO316:=n2_;have HO320:=n3_;have HO325:=n4_;have HO328:=n5_;have BK303:=n6_;have BK329:=n7_;have HB:=n8_;clear n0_ n1_ n2_ n3_ n4_ n5_ n6_ n7_ n8_;(try clear hb);(try clear hb2);(try clear hk);(try clear hi)) | ((with_reducible refine gate_callee (f:=21) rfl ?_);refine goesL_ (some 37) rfl rfl Try.func21 (by kernel_rfl) rfl #[.slice A0 l0.length c0] rfl (by (try simp only [List.map_toArray,List.map_cons,List.map_nil]);first | done | rfl | (simp only [List.length_drop,List.length_take];rfl)) ?_;(with_reducible refine (laws_toRecordSS.calls k _ _ l0 t331 _ ?side1 ?side2 A20.out).mono ?_);(case side1 => repeat (first | exact (Kd.C_below HR0.out HB.out) | (with_reducible refine Kd.C_alloc ?_ _) | (with_reducible refine Kd.C_drewN ?_ _) | (with_reducible refine Kd.C_drew ?_)));(case side2 => exact HC0.out);rintro e w76 ⟨v332,rfl,ho0,hb⟩;refine ⟨_,rfl,?_⟩;have n0_:=Aside0.mk (Kd.R_elder' (Up.Rup HO308) (Kd.R_base ho0) hb);have n1_:=Up.RB HO313 hb;have n2_:=Up.RB HO316 hb;have n3_:=Aside0.mk (Kd.R_elder' (Up.Rup HO320) (Kd.R_base ho0) hb);have n4_:=Up.RB HO325 hb;have n5_:=Up.RB HO328 hb;have n6_:=Aside0.mk (Kd.R_lower (Kd.R_new' (Kd.R_new' ho0 (Kd.R_lt (Up.Rup HO308))) (Kd.R_lt (Up.Rup HO320))) (below_size (by repeat (first | (with_reducible first | exact HB.out | apply below_alloc | apply pw_below_drewN | apply below_drew1 | refine below_set ?_ GE303.out | refine below_set ?_ GE329.out) | exact HB.out))));have n7_:=Up.KB BK303 hb;have n8_:=Up.KB BK329 hb;have n9_:=Aside0.mk (below_step (by repeat (first | (with_reducible first | exact HB.out | apply below_alloc | apply pw_below_drewN | apply below_drew1 | refine below_set ?_ GE303.out | refine below_set ?_ GE329.out) | exact HB.out)) hb);clear HO308;clear HO313;clear HO316;clear HO320;clear HO325;clear HO328;clear BK303;clear BK329;clear HB;have HO308:=n0_;have HO313:=n1_;have HO316:=n2_;have HO320:=n3_;have HO325:=n4_;have HO328:=n5_;have HO333:=n6_;have BK303:=n7_;have BK329:=n8_;have HB:=n9_;clear n0_ n1_ n2_ n3_ n4_ n5_ n6_ n7_ n8_ n9_;(try clear hb);(try clear hb2);(try clear hk);(try clear hi);(try clear ho0);obtain ⟨Ao77,co77,eo77⟩:=Kd.R_slice HO333.out;subst eo77) | ((with_reducible refine gate_callee (f:=23) rfl ?_);refine goesL_ (some 38) rfl rfl Try.func23 (by kernel_rfl) rfl #[.slice Ao74 t318.length co74,.slice Ao77 t331.length co77] rfl (by (try simp only [List.map_toArray,List.map_cons,List.map_nil]);first | done | rfl | (simp only [List.length_drop,List.length_take];rfl)) ?_;(with_reducible refine (laws_eqRecordSS.calls k _ _ t318 _ _ t331 true _ ?side1 ?side2 ?side3 ?side4 A21.out).mono ?_);(case side1 => repeat (first | exact (Kd.R_reads' HO320.out).2.2 | (with_reducible refine Kd.C_alloc ?_ _) | (with_reducible refine Kd.C_drewN ?_ _) | (with_reducible refine Kd.C_drew ?_)));(case side2 => exact (Kd.R_reads' HO320.out).2.1);(case side3 => repeat (first | exact (Kd.R_reads' HO333.out).2.2 | (with_reducible refine Kd.C_alloc ?_ _) | (with_reducible refine Kd.C_drewN ?_ _) | (with_reducible refine Kd.C_drew ?_)));(case side4 => exact (Kd.R_reads' HO333.out).2.1);rintro e w78 ⟨rfl,hb⟩;refine ⟨_,rfl,?_⟩;have n0_:=Up.RB HO308 hb;have n1_:=Up.RB HO313 hb;have n2_:=Up.RB HO316 hb;have n3_:=Up.RB HO320 hb;have n4_:=Up.RB HO325 hb;have n5_:=Up.RB HO328 hb;have n6_:=Up.RB HO333 hb;have n7_:=Up.KB BK303 hb;have n8_:=Up.KB BK329 hb;have n9_:=Aside0.mk (below_step (by repeat (first | (with_reducible first | exact HB.out | apply below_alloc | apply pw_below_drewN | apply below_drew1 | refine below_set ?_ GE303.out | refine below_set ?_ GE329.out) | exact HB.out)) hb);clear HO308;clear HO313;clear HO316;clear HO320;clear HO325;clear HO328;clear HO333;clear BK303;clear BK329;clear HB;have HO308:=n0_;have HO313:=n1_;have HO316:=n2_;have HO320:=n3_;have HO325:=n4_;have HO328:=n5_;have HO333:=n6_;have BK303:=n7_;have BK329:=n8_;have HB:=n9_;clear n0_ n1_ n2_ n3_ n4_ n5_ n6_ n7_ n8_ n9_;(try clear hb);(try clear hb2);(try clear hk);(try clear hi)))
      have n0_:=Aside0.mk (Kd.R_drew HO308.out)
      have n1_:=Aside0.mk (Kd.R_drew HO313.out)
      have n2_:=Aside0.mk (Kd.R_drew HO316.out)
      have n3_:=Aside0.mk (Kd.R_drew HO320.out)
      have n4_:=Aside0.mk (Kd.R_drew HO325.out)
      have n5_:=Aside0.mk (Kd.R_drew HO328.out)
      have n6_:=Aside0.mk (Kd.R_drew HO333.out)
      have n7_:=Aside0.mk (blk_drew BK303.out)
      have n8_:=Aside0.mk (blk_drew BK329.out)
      have n9_:=Aside0.mk (below_drew1 HB.out)
      clear HO308
      clear HO313
      clear HO316
      clear HO320
      clear HO325
      clear HO328
      clear HO333
      clear BK303
      clear BK329
      clear HB
      have HO308:=n0_
      have HO313:=n1_
      have HO316:=n2_
      have HO320:=n3_
      have HO325:=n4_
      have HO328:=n5_
      have HO333:=n6_
      have BK303:=n7_
      have BK329:=n8_
      have HB:=n9_
      clear n0_ n1_ n2_ n3_ n4_ n5_ n6_ n7_ n8_ n9_
      refine start_ (n:=5) (S:=fun w' => w'.cell? ⟨gb329,0,none⟩ = some (.string t321) ∧ w'.cell? ⟨gb329,1,none⟩ = some (.int .i64 t322) ∧ w'.cell? ⟨gb329,2,none⟩ = some (.slice Ao72 t323.length co72) ∧ w'.cell? ⟨gb329,3,none⟩ = some (.slice Ao73 t326.length co73) ∧ w'.cell? ⟨gb303,0,none⟩ = some (.string a1_0) ∧ w'.cell? ⟨gb303,1,none⟩ = some (.int .i64 a1_1) ∧ w'.cell? ⟨gb303,2,none⟩ = some (.slice A1_2 l1_2.length c1_2) ∧ w'.cell? ⟨gb303,3,none⟩ = some (.slice A1_3 l1_3.length c1_3)) (ds:=[]) #[false,false,false,false,false] (by kernel_rfl) rfl rfl ⟨(blk_cell BK329.out 0).trans rfl,(blk_cell BK329.out 1).trans rfl,(blk_cell BK329.out 2).trans rfl,(blk_cell BK329.out 3).trans rfl,(blk_cell BK303.out 0).trans rfl,(blk_cell BK303.out 1).trans rfl,(blk_cell BK303.out 2).trans rfl,(blk_cell BK303.out 3).trans rfl⟩ (fun hHeld => ?_)
      generalize w78.drew = w79 at HO308 HO313 HO316 HO320 HO325 HO328 HO333 BK303 BK329 HB hHeld ⊢
      refine take_ (i:=0) (N:=some 40) (v:=?_) (a':=?_) #[true,false,false,false,false] rfl rfl (by kernel_rfl) (fun _ _ _ h => h) (Or.inl ⟨by rfl,?_⟩) hHeld ?_ ?_
      rotate_left
      ·rintro w' ⟨s0,s1,s2,s3,s4,s5,s6,s7⟩
       go_simp
       with_reducible rfl
      rotate_left
      ·simp only [Act.put,List.setIfInBounds_toArray,List.set_cons_zero,List.set_cons_succ,i64_w,i32_w]
       rfl
      refine take_ (i:=1) (N:=some 41) (v:=?_) (a':=?_) #[true,true,false,false,false] rfl rfl (by kernel_rfl) (fun _ _ _ h => h) (Or.inl ⟨by rfl,?_⟩) hHeld ?_ ?_
      rotate_left
      ·rintro w' ⟨s0,s1,s2,s3,s4,s5,s6,s7⟩
       go_simp
       with_reducible rfl
      rotate_left
      ·simp only [Act.put,List.setIfInBounds_toArray,List.set_cons_zero,List.set_cons_succ,i64_w,i32_w]
       rfl
      refine one_ (i:=2) (N:=some 42) #[true,true,true,false,false] rfl rfl (by kernel_rfl) (by decide) (fun K hK => ?_)
      refine goes_ Try.func22 (by kernel_rfl) rfl #[.agg #[.string a1_0,.int .i64 a1_1,.slice A1_2 l1_2.length c1_2,.slice A1_3 l1_3.length c1_3]] (by rfl) rfl rfl (by (try simp only [List.map_toArray,List.map_cons,List.map_nil]);first | done | rfl | (simp only [List.length_drop,List.length_take];rfl)) ?_
      with_reducible refine (laws_toValue.calls k a1_0 a1_1 _ _ l1_2 _ _ l1_3 t335 t336 t337 t340 _ ?side1 ?side2 ?side3 ?side4 A23.out).mono ?_
      (case side1 => repeat (first | exact (Kd.C_below HR1_2.out HB.out) | (with_reducible refine Kd.C_alloc ?_ _) | (with_reducible refine Kd.C_drewN ?_ _) | (with_reducible refine Kd.C_drew ?_)))
      (case side2 => exact HC1_2.out)
      (case side3 => repeat (first | exact (Kd.C_below HR1_3.out HB.out) | (with_reducible refine Kd.C_alloc ?_ _) | (with_reducible refine Kd.C_drewN ?_ _) | (with_reducible refine Kd.C_drew ?_)))
      (case side4 => exact HC1_3.out)
      rintro e w80 ⟨v338,v341,rfl,ho0,ho1,hb⟩
      refine ⟨_,rfl,?_⟩
      have n0_:=Up.RB HO308 hb
      have n1_:=Aside0.mk (Kd.R_mono (Kd.R_told (Kd.R_told (Kd.R_old (Up.Rup HO313) hb) (Kd.R_base ho0)) (Kd.R_base ho1)) (fun _ h_ => h_.1))
      have n2_:=Aside0.mk (Kd.R_elder' (Up.Rup HO316) (Kd.R_base ho1) hb)
      have n3_:=Up.RB HO320 hb
      have n4_:=Aside0.mk (Kd.R_mono (Kd.R_told (Kd.R_told (Kd.R_old (Up.Rup HO325) hb) (Kd.R_base ho0)) (Kd.R_base ho1)) (fun _ h_ => h_.1))
      have n5_:=Aside0.mk (Kd.R_elder' (Up.Rup HO328) (Kd.R_base ho1) hb)
      have n6_:=Up.RB HO333 hb
      have n7_:=Aside0.mk (Kd.R_lower (Kd.R_newB (Kd.R_new' (Kd.R_new' (Kd.R_new' (Kd.R_new' ho0 (Kd.R_lt (Up.Rup HO313))) (Kd.R_lt (Up.Rup HO316))) (Kd.R_lt (Up.Rup HO325))) (Kd.R_lt (Up.Rup HO328))) (g:=gb329) (o:=.cells #[.string t321,.int .i64 t322,.slice Ao72 t323.length co72,.slice Ao73 t326.length co73] 27 (0,0)) (Up.Kup BK329)) (below_size (by repeat (first | (with_reducible first | exact HB.out | apply below_alloc | apply pw_below_drewN | apply below_drew1 | refine below_set ?_ GE303.out | refine below_set ?_ GE329.out) | exact HB.out))))
      have n8_:=Aside0.mk (Kd.R_lower (Kd.R_new' (Kd.R_new' ho1 (Kd.R_lt (Up.Rup HO316))) (Kd.R_lt (Up.Rup HO328))) (below_size (by repeat (first | (with_reducible first | exact HB.out | apply below_alloc | apply pw_below_drewN | apply below_drew1 | refine below_set ?_ GE303.out | refine below_set ?_ GE329.out) | exact HB.out))))
      have n9_:=Up.KB BK303 hb
      have n10_:=Up.KB BK329 hb
      have n11_:=Aside0.mk (below_step (by repeat (first | (with_reducible first | exact HB.out | apply below_alloc | apply pw_below_drewN | apply below_drew1 | refine below_set ?_ GE303.out | refine below_set ?_ GE329.out) | exact HB.out)) hb)
      clear HO308
      clear HO313
      clear HO316
      clear HO320
      clear HO325
      clear HO328
      clear HO333
      clear BK303
      clear BK329
      clear HB
      have HO308:=n0_
      have HO313:=n1_
      have HO316:=n2_
      have HO320:=n3_
      have HO325:=n4_
      have HO328:=n5_
      have HO333:=n6_
      have HO339:=n7_
      have HO342:=n8_
      have BK303:=n9_
      have BK329:=n10_
      have HB:=n11_
      clear n0_ n1_ n2_ n3_ n4_ n5_ n6_ n7_ n8_ n9_ n10_ n11_
      (try clear hb)
      (try clear hb2)
      (try clear hk)
      (try clear hi)
      (try clear ho0)
      (try clear ho1)
      obtain ⟨Ao81,co81,eo81⟩:=Kd.R_slice HO339.out
      (first | subst eo81 | (injection eo81 with f1_ f2_ f3_;have f4_:=f1_.symm;have f5_:=f3_.symm;clear f1_ f2_ f3_;subst f4_;subst f5_))
      obtain ⟨Ao82,co82,eo82⟩:=Kd.R_slice HO342.out
      (first | subst eo82 | (injection eo82 with f1_ f2_ f3_;have f4_:=f1_.symm;have f5_:=f3_.symm;clear f1_ f2_ f3_;subst f4_;subst f5_))
      refine hK.out _ _ ⟨(blk_cell BK329.out 0).trans rfl,(blk_cell BK329.out 1).trans rfl,(blk_cell BK329.out 2).trans rfl,(blk_cell BK329.out 3).trans rfl,(blk_cell BK303.out 0).trans rfl,(blk_cell BK303.out 1).trans rfl,(blk_cell BK303.out 2).trans rfl,(blk_cell BK303.out 3).trans rfl⟩ (fun hHeld => ?_)
      clear hK K
      refine norm_ (a':=?_) ?_ ?_
      rotate_left
      ·show Act.put _ (some 42) _ = _
       simp only [Act.put,List.setIfInBounds_toArray,List.set_cons_zero,List.set_cons_succ,i64_w,i32_w]
       rfl
      refine one_ (i:=3) (N:=some 43) #[true,true,true,true,false] rfl rfl (by kernel_rfl) (by decide) (fun K hK => ?_)
      refine goes_ Try.func24 (by kernel_rfl) rfl #[.agg #[.string t321,.int .i64 t322,.slice Ao72 t323.length co72,.slice Ao73 t326.length co73],.agg #[.string t335,.int .i64 t336,.slice Ao81 t337.length co81,.slice Ao82 t340.length co82]] (by rfl) rfl rfl (by (try simp only [List.map_toArray,List.map_cons,List.map_nil]);first | done | rfl | (simp only [List.length_drop,List.length_take];rfl)) ?_
      with_reducible refine (laws_eqValue.calls k t321 t322 _ _ t323 _ _ t326 t335 t336 _ _ t337 _ _ t340 false _ ?side1 ?side2 ?side3 ?side4 ?side5 ?side6 ?side7 ?side8 A24.out).mono ?_
      (case side1 => repeat (first | exact (Kd.R_reads' HO325.out).2.2 | (with_reducible refine Kd.C_alloc ?_ _) | (with_reducible refine Kd.C_drewN ?_ _) | (with_reducible refine Kd.C_drew ?_)))
      (case side2 => exact (Kd.R_reads' HO325.out).2.1)
      (case side3 => repeat (first | exact (Kd.R_reads' HO328.out).2.2 | (with_reducible refine Kd.C_alloc ?_ _) | (with_reducible refine Kd.C_drewN ?_ _) | (with_reducible refine Kd.C_drew ?_)))
      (case side4 => exact (Kd.R_reads' HO328.out).2.1)
      (case side5 => repeat (first | exact (Kd.R_reads' HO339.out).2.2 | (with_reducible refine Kd.C_alloc ?_ _) | (with_reducible refine Kd.C_drewN ?_ _) | (with_reducible refine Kd.C_drew ?_)))
      (case side6 => exact (Kd.R_reads' HO339.out).2.1)
      (case side7 => repeat (first | exact (Kd.R_reads' HO342.out).2.2 | (with_reducible refine Kd.C_alloc ?_ _) | (with_reducible refine Kd.C_drewN ?_ _) | (with_reducible refine Kd.C_drew ?_)))
      (case side8 => exact (Kd.R_reads' HO342.out).2.1)
      rintro e w83 ⟨rfl,hb⟩
      refine ⟨_,rfl,?_⟩
      have n0_:=Up.RB HO308 hb
      have n1_:=Up.RB HO313 hb
      have n2_:=Up.RB HO316 hb
      have n3_:=Up.RB HO320 hb
      have n4_:=Up.RB HO325 hb
      have n5_:=Up.RB HO328 hb
      have n6_:=Up.RB HO333 hb
      have n7_:=Up.RB HO339 hb
      have n8_:=Up.RB HO342 hb
      have n9_:=Up.KB BK303 hb
      have n10_:=Up.KB BK329 hb
      have n11_:=Aside0.mk (below_step (by repeat (first | (with_reducible first | exact HB.out | apply below_alloc | apply pw_below_drewN | apply below_drew1 | refine below_set ?_ GE303.out | refine below_set ?_ GE329.out) | exact HB.out)) hb)
      clear HO308
      clear HO313
      clear HO316
      clear HO320
      clear HO325
      clear HO328
      clear HO333
      clear HO339
      clear HO342
      clear BK303
      clear BK329
      clear HB
      have HO308:=n0_
      have HO313:=n1_
      have HO316:=n2_
      have HO320:=n3_
      have HO325:=n4_
      have HO328:=n5_
      have HO333:=n6_
      have HO339:=n7_
      have HO342:=n8_
      have BK303:=n9_
      have BK329:=n10_
      have HB:=n11_
      clear n0_ n1_ n2_ n3_ n4_ n5_ n6_ n7_ n8_ n9_ n10_ n11_
      (try clear hb)
      (try clear hb2)
      (try clear hk)
      (try clear hi)
      refine hK.out _ _ ⟨(blk_cell BK329.out 0).trans rfl,(blk_cell BK329.out 1).trans rfl,(blk_cell BK329.out 2).trans rfl,(blk_cell BK329.out 3).trans rfl,(blk_cell BK303.out 0).trans rfl,(blk_cell BK303.out 1).trans rfl,(blk_cell BK303.out 2).trans rfl,(blk_cell BK303.out 3).trans rfl⟩ (fun hHeld => ?_)
      clear hK K
      refine norm_ (a':=?_) ?_ ?_
      rotate_left
      ·show Act.put _ (some 43) _ = _
       simp only [Act.put,List.setIfInBounds_toArray,List.set_cons_zero,List.set_cons_succ,i64_w,i32_w]
       rfl
      refine pure_ (i:=4) (N:=some 44) (v:=?_) (a':=?_) #[true,true,true,true,true] rfl rfl (by kernel_rfl) (fun _ _ _ h => h) (Or.inl ⟨by rfl,?_⟩) ?_ ?_
      rotate_left
      ·intro w'
       go_simp
       with_reducible rfl
      rotate_left
      ·simp only [Act.put,List.setIfInBounds_toArray,List.set_cons_zero,List.set_cons_succ,i64_w,i32_w]
       rfl
      refine done_ (by kernel_rfl) ?_
      try go_wp2
      go_ret
      exact ⟨by first | rfl | (simp [errW_none,errW_some] <;> rfl) | (simp [*,errW_none,errW_some] <;> rfl),by repeat (first | (with_reducible first | exact HB.out | apply below_alloc | apply pw_below_drewN | apply below_drew1 | refine below_set ?_ GE303.out | refine below_set ?_ GE329.out) | exact HB.out)⟩
    ·replace c22:=Bool.eq_false_iff.mpr c22
     subst c22
     have H1 : (some false) = some r:=by rw [if_neg (show ¬ (false = true) by decide)] at H;exact H
     clear H
     have H:=H1
     clear H1
     obtain rfl:=Option.some.inj H
     go_enter Try.func6,Try.ntmps6
     try go_wp2_with (first | ((with_reducible refine gate_dst (N:=3) rfl ?_);refine box_event ?hg (N:=3) ?hd (cs:=#[.string a1_0,.int .i64 a1_1,.slice A1_2 l1_2.length c1_2,.slice A1_3 l1_3.length c1_3]) (t:=39) ?hr ?_;(case hd => rfl);(case hg => rfl);(case hr => first | (go_simp;done) | (go_simp;rfl));intro gb303 hg w84 hbox hb;have n0_:=Up.BB HB hb;have n1_:=Aside0.mk (hbox);have n2_:=Aside0.mk ((by rw [hg];exact (below_size (Up.Bup HB)) : w.heap.size ≤ gb303));have n3_:=Aside0.mk ((by rw [hg];exact (below_size (Up.Bup HB)) : w.heap.size ≤ gb303));clear HB;have HB:=n0_;have BK303:=n1_;have GW303:=n2_;have GE303:=n3_;clear n0_ n1_ n2_ n3_;clear hb hbox hg) | ((with_reducible refine gate_callee (f:=18) rfl ?_);refine goesL_ (some 12) rfl rfl Try.func18 (by kernel_rfl) rfl #[.slice A0 l0.length c0,.int .i64 1048576] rfl (by (try simp only [List.map_toArray,List.map_cons,List.map_nil]);first | done | rfl | (simp only [List.length_drop,List.length_take];rfl)) ?_;(with_reducible refine (laws_szRecordSS.calls k _ _ l0 1048576 t304 _ ?side1 ?side2 A3.out).mono ?_);(case side1 => repeat (first | exact (Kd.C_below HR0.out HB.out) | (with_reducible refine Kd.C_alloc ?_ _) | (with_reducible refine Kd.C_drewN ?_ _) | (with_reducible refine Kd.C_drew ?_)));(case side2 => exact HC0.out);rintro e w85 ⟨rfl,hb⟩;refine ⟨_,rfl,?_⟩;have n0_:=Up.KB BK303 hb;have n1_:=Aside0.mk (below_step (by repeat (first | (with_reducible first | exact HB.out | apply below_alloc | apply pw_below_drewN | apply below_drew1 | refine below_set ?_ GE303.out) | exact HB.out)) hb);clear BK303;clear HB;have BK303:=n0_;have HB:=n1_;clear n0_ n1_;(try clear hb);(try clear hb2);(try clear hk);(try clear hi);have hcz86_0 : w85.cell? ⟨gb303,0,none⟩ = some (.string a1_0):=(blk_cell BK303.out 0).trans rfl;have hcz86_1 : w85.cell? ⟨gb303,1,none⟩ = some (.int .i64 a1_1):=(blk_cell BK303.out 1).trans rfl;have hcz86_2 : w85.cell? ⟨gb303,2,none⟩ = some (.slice A1_2 l1_2.length c1_2):=(blk_cell BK303.out 2).trans rfl;have hcz86_3 : w85.cell? ⟨gb303,3,none⟩ = some (.slice A1_3 l1_3.length c1_3):=(blk_cell BK303.out 3).trans rfl;have hfz86_0:=blk_frozen BK303.out 0;have hfz86_1:=blk_frozen BK303.out 1;have hfz86_2:=blk_frozen BK303.out 2;have hfz86_3:=blk_frozen BK303.out 3) | ((with_reducible refine gate_callee (f:=19) rfl ?_);refine goesL_ (some 17) rfl rfl Try.func19 (by kernel_rfl) rfl #[.agg #[.string a1_0,.int .i64 a1_1,.slice A1_2 l1_2.length c1_2,.slice A1_3 l1_3.length c1_3],.int .i64 t304] rfl (by (try simp only [List.map_toArray,List.map_cons,List.map_nil]);first | done | rfl | (simp only [List.length_drop,List.length_take];rfl)) ?_;(with_reducible refine (laws_szValue.calls k a1_0 a1_1 _ _ l1_2 _ _ l1_3 t304 t305 _ ?side1 ?side2 ?side3 ?side4 A7.out).mono ?_);(case side1 => repeat (first | exact (Kd.C_below HR1_2.out HB.out) | (with_reducible refine Kd.C_alloc ?_ _) | (with_reducible refine Kd.C_drewN ?_ _) | (with_reducible refine Kd.C_drew ?_)));(case side2 => exact HC1_2.out);(case side3 => repeat (first | exact (Kd.C_below HR1_3.out HB.out) | (with_reducible refine Kd.C_alloc ?_ _) | (with_reducible refine Kd.C_drewN ?_ _) | (with_reducible refine Kd.C_drew ?_)));(case side4 => exact HC1_3.out);rintro e w87 ⟨rfl,hb⟩;refine ⟨_,rfl,?_⟩;have n0_:=Up.KB BK303 hb;have n1_:=Aside0.mk (below_step (by repeat (first | (with_reducible first | exact HB.out | apply below_alloc | apply pw_below_drewN | apply below_drew1 | refine below_set ?_ GE303.out) | exact HB.out)) hb);clear BK303;clear HB;have BK303:=n0_;have HB:=n1_;clear n0_ n1_;(try clear hb);(try clear hb2);(try clear hk);(try clear hi)))
     have n0_:=Aside0.mk (blk_drew BK303.out)
     have n1_:=Aside0.mk (below_drew1 HB.out)
     clear BK303
     clear HB
     have BK303:=n0_
     have HB:=n1_
     clear n0_ n1_
     refine start_ (n:=6) (S:=fun w' => w'.cell? ⟨gb303,0,none⟩ = some (.string a1_0) ∧ w'.cell? ⟨gb303,1,none⟩ = some (.int .i64 a1_1) ∧ w'.cell? ⟨gb303,2,none⟩ = some (.slice A1_2 l1_2.length c1_2) ∧ w'.cell? ⟨gb303,3,none⟩ = some (.slice A1_3 l1_3.length c1_3)) (ds:=[]) #[false,false,false,false,false,false] (by kernel_rfl) rfl rfl ⟨(blk_cell BK303.out 0).trans rfl,(blk_cell BK303.out 1).trans rfl,(blk_cell BK303.out 2).trans rfl,(blk_cell BK303.out 3).trans rfl⟩ (fun hHeld => ?_)
     generalize w87.drew = w88 at BK303 HB hHeld ⊢
     refine pure_ (i:=0) (N:=some 20) (v:=?_) (a':=?_) #[true,false,false,false,false,false] rfl rfl (by kernel_rfl) (fun _ _ _ h => h) (Or.inl ⟨by rfl,?_⟩) ?_ ?_
     rotate_left
     ·intro w'
      go_simp
      with_reducible rfl
     rotate_left
     ·simp only [Act.put,List.setIfInBounds_toArray,List.set_cons_zero,List.set_cons_succ,i64_w,i32_w]
      rfl
     refine take_ (i:=2) (N:=some 22) (v:=?_) (a':=?_) #[true,false,true,false,false,false] rfl rfl (by kernel_rfl) (fun _ _ _ h => h) (Or.inl ⟨by rfl,?_⟩) hHeld ?_ ?_
     rotate_left
     ·rintro w' ⟨s0,s1,s2,s3⟩
      go_simp
      with_reducible rfl
     rotate_left
     ·simp only [Act.put,List.setIfInBounds_toArray,List.set_cons_zero,List.set_cons_succ,i64_w,i32_w]
      rfl
     refine one_ (i:=1) (N:=some 21) #[true,true,true,false,false,false] rfl rfl (by kernel_rfl) (by decide) (fun K hK => ?_)
     refine goes_ Try.func21 (by kernel_rfl) rfl #[.slice A0 l0.length c0] (by rfl) rfl rfl (by (try simp only [List.map_toArray,List.map_cons,List.map_nil]);first | done | rfl | (simp only [List.length_drop,List.length_take];rfl)) ?_
     with_reducible refine (laws_toRecordSS.calls k _ _ l0 t306 _ ?side1 ?side2 A13.out).mono ?_
     (case side1 => repeat (first | exact (Kd.C_below HR0.out HB.out) | (with_reducible refine Kd.C_alloc ?_ _) | (with_reducible refine Kd.C_drewN ?_ _) | (with_reducible refine Kd.C_drew ?_)))
     (case side2 => exact HC0.out)
     rintro e w89 ⟨v307,rfl,ho0,hb⟩
     refine ⟨_,rfl,?_⟩
     have n0_:=Aside0.mk (Kd.R_lower ho0 (below_size (by repeat (first | (with_reducible first | exact HB.out | apply below_alloc | apply pw_below_drewN | apply below_drew1 | refine below_set ?_ GE303.out) | exact HB.out))))
     have n1_:=Up.KB BK303 hb
     have n2_:=Aside0.mk (below_step (by repeat (first | (with_reducible first | exact HB.out | apply below_alloc | apply pw_below_drewN | apply below_drew1 | refine below_set ?_ GE303.out) | exact HB.out)) hb)
     clear BK303
     clear HB
     have HO308:=n0_
     have BK303:=n1_
     have HB:=n2_
     clear n0_ n1_ n2_
     (try clear hb)
     (try clear hb2)
     (try clear hk)
     (try clear hi)
     (try clear ho0)
     refine hK.out _ _ ⟨(blk_cell BK303.out 0).trans rfl,(blk_cell BK303.out 1).trans rfl,(blk_cell BK303.out 2).trans rfl,(blk_cell BK303.out 3).trans rfl⟩ (fun hHeld => ?_)
     clear hK K
     refine norm_ (a':=?_) ?_ ?_
     rotate_left
     ·show Act.put _ (some 21) _ = _
      simp only [Act.put,List.setIfInBounds_toArray,List.set_cons_zero,List.set_cons_succ,i64_w,i32_w]
      rfl
     refine one_ (i:=3) (N:=some 23) #[true,true,true,true,false,false] rfl rfl (by kernel_rfl) (by decide) (fun K hK => ?_)
     refine goes_ Try.func22 (by kernel_rfl) rfl #[.agg #[.string a1_0,.int .i64 a1_1,.slice A1_2 l1_2.length c1_2,.slice A1_3 l1_3.length c1_3]] (by rfl) rfl rfl (by (try simp only [List.map_toArray,List.map_cons,List.map_nil]);first | done | rfl | (simp only [List.length_drop,List.length_take];rfl)) ?_
     with_reducible refine (laws_toValue.calls k a1_0 a1_1 _ _ l1_2 _ _ l1_3 t309 t310 t311 t314 _ ?side1 ?side2 ?side3 ?side4 A14.out).mono ?_
     (case side1 => repeat (first | exact (Kd.C_below HR1_2.out HB.out) | (with_reducible refine Kd.C_alloc ?_ _) | (with_reducible refine Kd.C_drewN ?_ _) | (with_reducible refine Kd.C_drew ?_)))
     (case side2 => exact HC1_2.out)
     (case side3 => repeat (first | exact (Kd.C_below HR1_3.out HB.out) | (with_reducible refine Kd.C_alloc ?_ _) | (with_reducible refine Kd.C_drewN ?_ _) | (with_reducible refine Kd.C_drew ?_)))
     (case side4 => exact HC1_3.out)
     rintro e w90 ⟨v312,v315,rfl,ho0,ho1,hb⟩
     refine ⟨_,rfl,?_⟩
     have n0_:=Up.RB HO308 hb
     have n1_:=Aside0.mk (Kd.R_lower ho0 (below_size (by repeat (first | (with_reducible first | exact HB.out | apply below_alloc | apply pw_below_drewN | apply below_drew1 | refine below_set ?_ GE303.out) | exact HB.out))))
     have n2_:=Aside0.mk (Kd.R_lower ho1 (below_size (by repeat (first | (with_reducible first | exact HB.out | apply below_alloc | apply pw_below_drewN | apply below_drew1 | refine below_set ?_ GE303.out) | exact HB.out))))
     have n3_:=Up.KB BK303 hb
     have n4_:=Aside0.mk (below_step (by repeat (first | (with_reducible first | exact HB.out | apply below_alloc | apply pw_below_drewN | apply below_drew1 | refine below_set ?_ GE303.out) | exact HB.out)) hb)
     clear HO308
     clear BK303
     clear HB
     have HO308:=n0_
     have HO313:=n1_
     have HO316:=n2_
     have BK303:=n3_
     have HB:=n4_
     clear n0_ n1_ n2_ n3_ n4_
     (try clear hb)
     (try clear hb2)
     (try clear hk)
     (try clear hi)
     (try clear ho0)
     (try clear ho1)
     obtain ⟨Ao91,co91,eo91⟩:=Kd.R_slice HO308.out
     (first | subst eo91 | (injection eo91 with f1_ f2_ f3_;have f4_:=f1_.symm;have f5_:=f3_.symm;clear f1_ f2_ f3_;subst f4_;subst f5_))
     obtain ⟨Ao92,co92,eo92⟩:=Kd.R_slice HO313.out
     (first | subst eo92 | (injection eo92 with f1_ f2_ f3_;have f4_:=f1_.symm;have f5_:=f3_.symm;clear f1_ f2_ f3_;subst f4_;subst f5_))
     obtain ⟨Ao93,co93,eo93⟩:=Kd.R_slice HO316.out
     (first | subst eo93 | (injection eo93 with f1_ f2_ f3_;have f4_:=f1_.symm;have f5_:=f3_.symm;clear f1_ f2_ f3_;subst f4_;subst f5_))
     refine hK.out _ _ ⟨(blk_cell BK303.out 0).trans rfl,(blk_cell BK303.out 1).trans rfl,(blk_cell BK303.out 2).trans rfl,(blk_cell BK303.out 3).trans rfl⟩ (fun hHeld => ?_)
     clear hK K
     refine norm_ (a':=?_) ?_ ?_
     rotate_left
     ·show Act.put _ (some 23) _ = _
      simp only [Act.put,List.setIfInBounds_toArray,List.set_cons_zero,List.set_cons_succ,i64_w,i32_w]
      rfl
     refine one_ (i:=4) (N:=some 24) #[true,true,true,true,true,false] rfl rfl (by kernel_rfl) (by decide) (fun K hK => ?_)
     refine goes_ Try.func13 (by kernel_rfl) rfl #[.slice Ao91 t306.length co91,.agg #[.string t309,.int .i64 t310,.slice Ao92 t311.length co92,.slice Ao93 t314.length co93]] (by rfl) rfl rfl (by (try simp only [List.map_toArray,List.map_cons,List.map_nil]);first | done | rfl | (simp only [List.length_drop,List.length_take];rfl)) ?_
     with_reducible refine (spec_ValueSize.calls k _ _ t306 t309 t310 _ _ t311 _ _ t314 t317 _ ?side1 ?side2 ?side3 ?side4 ?side5 ?side6 A15.out).mono ?_
     (case side1 => repeat (first | exact (Kd.R_reads' HO308.out).2.2 | (with_reducible refine Kd.C_alloc ?_ _) | (with_reducible refine Kd.C_drewN ?_ _) | (with_reducible refine Kd.C_drew ?_)))
     (case side2 => exact (Kd.R_reads' HO308.out).2.1)
     (case side3 => repeat (first | exact (Kd.R_reads' HO313.out).2.2 | (with_reducible refine Kd.C_alloc ?_ _) | (with_reducible refine Kd.C_drewN ?_ _) | (with_reducible refine Kd.C_drew ?_)))
     (case side4 => exact (Kd.R_reads' HO313.out).2.1)
     (case side5 => repeat (first | exact (Kd.R_reads' HO316.out).2.2 | (with_reducible refine Kd.C_alloc ?_ _) | (with_reducible refine Kd.C_drewN ?_ _) | (with_reducible refine Kd.C_drew ?_)))
     (case side6 => exact (Kd.R_reads' HO316.out).2.1)
     rintro e w94 ⟨rfl,hb⟩
     refine ⟨_,rfl,?_⟩
     have n0_:=Up.RB HO308 hb
     have n1_:=Up.RB HO313 hb
     have n2_:=Up.RB HO316 hb
     have n3_:=Up.KB BK303 hb
     have n4_:=Aside0.mk (below_step (by repeat (first | (with_reducible first | exact HB.out | apply below_alloc | apply pw_below_drewN | apply below_drew1 | refine below_set ?_ GE303.out) | exact HB.out)) hb)
     clear HO308
     clear HO313
     clear HO316
     clear BK303
     clear HB
     have HO308:=n0_
     have HO313:=n1_
     have HO316:=n2_
     have BK303:=n3_
     have HB:=n4_
     clear n0_ n1_ n2_ n3_ n4_
     (try clear hb)
     (try clear hb2)
     (try clear hk)
     (try clear hi)
     refine hK.out _ _ ⟨(blk_cell BK303.out 0).trans rfl,(blk_cell BK303.out 1).trans rfl,(blk_cell BK303.out 2).trans rfl,(blk_cell BK303.out 3).trans rfl⟩ (fun hHeld => ?_)
     clear hK K
     refine norm_ (a':=?_) ?_ ?_
     rotate_left
     ·show Act.put _ (some 24) _ = _
      simp only [Act.put,List.setIfInBounds_toArray,List.set_cons_zero,List.set_cons_succ,i64_w,i32_w]
      rfl
     refine pure_ (i:=5) (N:=some 6) (v:=?_) (a':=?_) #[true,true,true,true,true,true] rfl rfl (by kernel_rfl) (fun _ _ _ h => h) (Or.inl ⟨by rfl,?_⟩) ?_ ?_
     rotate_left
     ·intro w'
      go_simp
      with_reducible rfl
     rotate_left
     ·simp only [Act.put,List.setIfInBounds_toArray,List.set_cons_zero,List.set_cons_succ,i64_w,i32_w]
      rfl
     refine done_ (by kernel_rfl) ?_
     try go_wp2_with (first | ((with_reducible refine gate_callee (f:=21) rfl ?_);refine goesL_ (some 26) rfl rfl Try.func21 (by kernel_rfl) rfl #[.slice A0 l0.length c0] rfl (by (try simp only [List.map_toArray,List.map_cons,List.map_nil]);first | done | rfl | (simp only [List.length_drop,List.length_take];rfl)) ?_;(with_reducible refine (laws_toRecordSS.calls k _ _ l0 t318 _ ?side1 ?side2 A16.out).mono ?_);(case side1 => repeat (first | exact (Kd.C_below HR0.out HB.out) | (with_reducible refine Kd.C_alloc ?_ _) | (with_reducible refine Kd.C_drewN ?_ _) | (with_reducible refine Kd.C_drew ?_)));(case side2 => exact HC0.out);rintro e w95 ⟨v319,rfl,ho0,hb⟩;refine ⟨_,rfl,?_⟩;have n0_:=Aside0.mk (Kd.R_elder' (Up.Rup HO308) (Kd.R_base ho0) hb);have n1_:=Up.RB HO313 hb;have n2_:=Up.RB HO316 hb;have n3_:=Aside0.mk (Kd.R_lower (Kd.R_new' ho0 (Kd.R_lt (Up.Rup HO308))) (below_size (by repeat (first | (with_reducible first | exact HB.out | apply below_alloc | apply pw_below_drewN | apply below_drew1 | refine below_set ?_ GE303.out) | exact HB.out))));have n4_:=Up.KB BK303 hb;have n5_:=Aside0.mk (below_step (by repeat (first | (with_reducible first | exact HB.out | apply below_alloc | apply pw_below_drewN | apply below_drew1 | refine below_set ?_ GE303.out) | exact HB.out)) hb);clear HO308;clear HO313;clear HO316;clear BK303;clear HB;have HO308:=n0_;have HO313:=n1_;have HO316:=n2_;have HO320:=n3_;have BK303:=n4_;have HB:=n5_;clear n0_ n1_ n2_ n3_ n4_ n5_;(try clear hb);(try clear hb2);(try clear hk);(try clear hi);(try clear ho0);have hcz96_0 : w95.cell? ⟨gb303,0,none⟩ = some (.string a1_0):=(blk_cell BK303.out 0).trans rfl;have hcz96_1 : w95.cell? ⟨gb303,1,none⟩ = some (.int .i64 a1_1):=(blk_cell BK303.out 1).trans rfl;have hcz96_2 : w95.cell? ⟨gb303,2,none⟩ = some (.slice A1_2 l1_2.length c1_2):=(blk_cell BK303.out 2).trans rfl;have hcz96_3 : w95.cell? ⟨gb303,3,none⟩ = some (.slice A1_3 l1_3.length c1_3):=(blk_cell BK303.out 3).trans rfl;have hfz96_0:=blk_frozen BK303.out 0;have hfz96_1:=blk_frozen BK303.out 1;have hfz96_2:=blk_frozen BK303.out 2;have hfz96_3:=blk_frozen BK303.out 3) | ((with_reducible refine gate_callee (f:=22) rfl ?_);refine goesL_ (some 28) rfl rfl Try.func22 (by kernel_rfl) rfl #[.agg #[.string a1_0,.int .i64 a1_1,.slice A1_2 l1_2.length c1_2,.slice A1_3 l1_3.length c1_3]] rfl (by (try simp only [List.map_toArray,List.map_cons,List.map_nil]);first | done | rfl | (simp only [List.length_drop,List.length_take];rfl)) ?_;(with_reducible refine (laws_toValue.calls k a1_0 a1_1 _ _ l1_2 _ _ l1_3 t321 t322 t323 t326 _ ?side1 ?side2 ?side3 ?side4 A17.out).mono ?_);(case side1 => repeat (first | exact (Kd.C_below HR1_2.out HB.out) | (with_reducible refine Kd.C_alloc ?_ _) | (with_reducible refine Kd.C_drewN ?_ _) | (with_reducible refine Kd.C_drew ?_)));(case side2 => exact HC1_2.out);(case side3 => repeat (first | exact (Kd.C_below HR1_3.out HB.out) | (with_reducible refine Kd.C_alloc ?_ _) | (with_reducible refine Kd.C_drewN ?_ _) | (with_reducible refine Kd.C_drew ?_)));(case side4 => exact HC1_3.out);rintro e w97 ⟨v324,v327,rfl,ho0,ho1,hb⟩;refine ⟨_,rfl,?_⟩;have n0_:=Up.RB HO308 hb;have n1_:=Aside0.mk (Kd.R_mono (Kd.R_told (Kd.R_told (Kd.R_old (Up.Rup HO313) hb) (Kd.R_base ho0)) (Kd.R_base ho1)) (fun _ h_ => h_.1));have n2_:=Aside0.mk (Kd.R_elder' (Up.Rup HO316) (Kd.R_base ho1) hb);have n3_:=Up.RB HO320 hb;have n4_:=Aside0.mk (Kd.R_lower (Kd.R_new' (Kd.R_new' ho0 (Kd.R_lt (Up.Rup HO313))) (Kd.R_lt (Up.Rup HO316))) (below_size (by repeat (first | (with_reducible first | exact HB.out | apply below_alloc | apply pw_below_drewN | apply below_drew1 | refine below_set ?_ GE303.out) | exact HB.out))));have n5_:=Aside0.mk (Kd.R_lower (Kd.R_new' ho1 (Kd.R_lt (Up.Rup HO316))) (below_size (by repeat (first | (with_reducible first | exact HB.out | apply below_alloc | apply pw_below_drewN | apply below_drew1 | refine below_set ?_ GE303.out) | exact HB.out))));have n6_:=Up.KB BK303 hb;have n7_:=Aside0.mk (below_step (by repeat (first | (with_reducible first | exact HB.out | apply below_alloc | apply pw_below_drewN | apply below_drew1 | refine below_set ?_ GE303.out) | exact HB.out)) hb);clear HO308;clear HO313;clear HO316;clear HO320;clear BK303;clear HB;have HO308:=n0_;have HO313:=n1_;have HO316:=n2_;have HO320:=n3_;have HO325:=n4_;have HO328:=n5_;have BK303:=n6_;have HB:=n7_;clear n0_ n1_ n2_ n3_ n4_ n5_ n6_ n7_;(try clear hb);(try clear hb2);(try clear hk);(try clear hi);(try clear ho0);(try clear ho1)) | ((with_reducible refine gate_dst (N:=8) rfl ?_);refine box_event ?hg (N:=8) ?hd (cs:=#[.string (⟨#[]⟩ : ByteArray),.int .i64 0,.slice none 0 0,.slice none 0 0]) (t:=27) ?hr ?_;(case hd => rfl);(case hg => rfl);(case hr => first | (go_simp;done) | (go_simp;rfl));intro gb329 hg w98 hbox hb;have n0_:=Up.RB HO308 hb;have n1_:=Aside0.mk (Kd.R_below (Kd.R_elderB (Up.Rup HO313) gb329 (Nat.le_of_eq hg.symm)) hb);have n2_:=Up.RB HO316 hb;have n3_:=Up.RB HO320 hb;have n4_:=Aside0.mk (Kd.R_below (Kd.R_elderB (Up.Rup HO325) gb329 (Nat.le_of_eq hg.symm)) hb);have n5_:=Up.RB HO328 hb;have n6_:=Up.KB BK303 hb;have n7_:=Aside0.mk (below_step (by repeat (first | (with_reducible first | exact HB.out | apply below_alloc | apply pw_below_drewN | apply below_drew1 | refine below_set ?_ GE303.out) | exact HB.out)) hb);have n8_:=Aside0.mk (hbox);have n9_:=Aside0.mk ((by rw [hg];exact (below_size (by repeat (first | (with_reducible first | exact HB.out | apply below_alloc | apply pw_below_drewN | apply below_drew1 | refine below_set ?_ GE303.out) | exact HB.out))) : w.heap.size ≤ gb329));have n10_:=Aside0.mk ((by rw [hg];exact (below_size (by repeat (first | (with_reducible first | exact HB.out | apply below_alloc | apply pw_below_drewN | apply below_drew1 | refine below_set ?_ GE303.out) | exact HB.out))) : w.heap.size ≤ gb329));have n11_:=Aside0.mk ((by rw [hg];exact Nat.ne_of_lt (blk_lt (g:=gb303) (o:=.cells #[.string a1_0,.int .i64 a1_1,.slice A1_2 l1_2.length c1_2,.slice A1_3 l1_3.length c1_3] 39 (0,0)) (Up.Kup BK303)) : gb303 ≠ gb329));have n12_:=Aside0.mk ((by rw [hg];exact Nat.ne_of_gt (blk_lt (g:=gb303) (o:=.cells #[.string a1_0,.int .i64 a1_1,.slice A1_2 l1_2.length c1_2,.slice A1_3 l1_3.length c1_3] 39 (0,0)) (Up.Kup BK303)) : gb329 ≠ gb303));clear HO308;clear HO313;clear HO316;clear HO320;clear HO325;clear HO328;clear BK303;clear HB;have HO308:=n0_;have HO313:=n1_;have HO316:=n2_;have HO320:=n3_;have HO325:=n4_;have HO328:=n5_;have BK303:=n6_;have HB:=n7_;have BK329:=n8_;have GW329:=n9_;have GE329:=n10_;have NB303_329:=n11_;have NB329_303:=n12_;clear n0_ n1_ n2_ n3_ n4_ n5_ n6_ n7_ n8_ n9_ n10_ n11_ n12_;clear hb hbox hg;have hnb99:=NB329_303.out;have hnc99:=NB303_329.out;have hcz100_0 : w98.cell? ⟨gb329,0,none⟩ = some (.string (⟨#[]⟩ : ByteArray)):=(blk_cell BK329.out 0).trans rfl;have hcz100_1 : w98.cell? ⟨gb329,1,none⟩ = some (.int .i64 0):=(blk_cell BK329.out 1).trans rfl;have hcz100_2 : w98.cell? ⟨gb329,2,none⟩ = some (.slice none 0 0):=(blk_cell BK329.out 2).trans rfl;have hcz100_3 : w98.cell? ⟨gb329,3,none⟩ = some (.slice none 0 0):=(blk_cell BK329.out 3).trans rfl;have hfz100_0:=blk_frozen BK329.out 0;have hfz100_1:=blk_frozen BK329.out 1;have hfz100_2:=blk_frozen BK329.out 2;have hfz100_3:=blk_frozen BK329.out 3;obtain ⟨Ao101,co101,eo101⟩:=Kd.R_slice HO325.out;subst eo101;obtain ⟨Ao102,co102,eo102⟩:=Kd.R_slice HO328.out;subst eo102;obtain ⟨Ao103,co103,eo103⟩:=Kd.R_slice HO320.out;subst eo103) | ((with_reducible refine gate_callee (f:=12) rfl ?_);refine goesL_ (some 31) rfl rfl Try.func12 (by kernel_rfl) rfl #[.slice Ao103 t318.length co103,.agg #[.string t321,.int .i64 t322,.slice Ao101 t323.length co101,.slice Ao102 t326.length co102]] rfl (by (try simp only [List.map_toArray,List.map_cons,List.map_nil]);first | done | rfl | (simp only [List.length_drop,List.length_take];rfl)) ?_;(with_reducible refine (impl_ValueSize.calls k _ _ t318 t321 t322 _ _ t323 _ _ t326 t330 _ ?side1 ?side2 ?side3 ?side4 ?side5 ?side6 A18.out).mono ?_);(case side1 => refine (Kd.R_reads' (e:=82) (base:=w.heap.size) (ok:=fun k_ => (True ∧ some k_ ≠ (.slice Ao91 t306.length co91 : Value).ownBlock)) (n:=t318.length) (c:=co103) ?_).2.2;exact (by (with_reducible repeat (first | apply Kd.R_alloc | apply Kd.R_drewN | apply Kd.R_drew));exact (Kd.R_mono (Kd.R_far (p:=⟨gb329,3,none⟩) (Kd.R_far (p:=⟨gb329,2,none⟩) (Kd.R_far (p:=⟨gb329,1,none⟩) (Kd.R_far (p:=⟨gb329,0,none⟩) (Kd.R_types HO320.out BK329.out (by decide)) (fun _ hk => hk.2) (.string t321)) (fun _ hk => hk.2) (.int .i64 t322)) (fun _ hk => hk.2) (.slice Ao101 t323.length co101)) (fun _ hk => hk.2) (.slice Ao102 t326.length co102)) (fun _ h_ => h_.1))));(case side2 => exact (Kd.R_reads' HO320.out).2.1);(case side3 => refine (Kd.R_reads' (e:=27) (base:=w.heap.size) (ok:=fun k_ => (((some k_ ≠ (.slice Ao102 t326.length co102 : Value).ownBlock ∧ some k_ ≠ (.slice Ao92 t311.length co92 : Value).ownBlock) ∧ some k_ ≠ (.slice Ao93 t314.length co93 : Value).ownBlock) ∧ k_ ≠ gb329)) (n:=t323.length) (c:=co101) ?_).2.2;exact (by (with_reducible repeat (first | apply Kd.R_alloc | apply Kd.R_drewN | apply Kd.R_drew));exact (Kd.R_mono (Kd.R_far (p:=⟨gb329,3,none⟩) (Kd.R_far (p:=⟨gb329,2,none⟩) (Kd.R_far (p:=⟨gb329,1,none⟩) (Kd.R_far (p:=⟨gb329,0,none⟩) (Kd.R_mono HO325.out (fun k_ hk => (⟨hk,hk.2⟩ : _ ∧ k_ ≠ gb329))) (fun _ hk => hk.2) (.string t321)) (fun _ hk => hk.2) (.int .i64 t322)) (fun _ hk => hk.2) (.slice Ao101 t323.length co101)) (fun _ hk => hk.2) (.slice Ao102 t326.length co102)) (fun _ h_ => h_.1))));(case side4 => exact (Kd.R_reads' HO325.out).2.1);(case side5 => refine (Kd.R_reads' (e:=3) (base:=w.heap.size) (ok:=fun k_ => (True ∧ some k_ ≠ (.slice Ao93 t314.length co93 : Value).ownBlock)) (n:=t326.length) (c:=co102) ?_).2.2;exact (by (with_reducible repeat (first | apply Kd.R_alloc | apply Kd.R_drewN | apply Kd.R_drew));exact (Kd.R_mono (Kd.R_far (p:=⟨gb329,3,none⟩) (Kd.R_far (p:=⟨gb329,2,none⟩) (Kd.R_far (p:=⟨gb329,1,none⟩) (Kd.R_far (p:=⟨gb329,0,none⟩) (Kd.R_types HO328.out BK329.out (by decide)) (fun _ hk => hk.2) (.string t321)) (fun _ hk => hk.2) (.int .i64 t322)) (fun _ hk => hk.2) (.slice Ao101 t323.length co101)) (fun _ hk => hk.2) (.slice Ao102 t326.length co102)) (fun _ h_ => h_.1))));(case side6 => exact (Kd.R_reads' HO328.out).2.1);rintro e w104 ⟨rfl,hb⟩;refine ⟨_,rfl,?_⟩;have n0_:=Aside0.mk (Kd.R_below (by (with_reducible repeat (first | apply Kd.R_alloc | apply Kd.R_drewN | apply Kd.R_drew));exact (Kd.R_mono (Kd.R_far (p:=⟨gb329,3,none⟩) (Kd.R_far (p:=⟨gb329,2,none⟩) (Kd.R_far (p:=⟨gb329,1,none⟩) (Kd.R_far (p:=⟨gb329,0,none⟩) (Kd.R_types HO308.out BK329.out (by decide)) (fun _ hk => hk.2) (.string t321)) (fun _ hk => hk.2) (.int .i64 t322)) (fun _ hk => hk.2) (.slice Ao101 t323.length co101)) (fun _ hk => hk.2) (.slice Ao102 t326.length co102)) (fun _ h_ => h_.1))) hb);have n1_:=Aside0.mk (Kd.R_below (by (with_reducible repeat (first | apply Kd.R_alloc | apply Kd.R_drewN | apply Kd.R_drew));exact (Kd.R_mono (Kd.R_far (p:=⟨gb329,3,none⟩) (Kd.R_far (p:=⟨gb329,2,none⟩) (Kd.R_far (p:=⟨gb329,1,none⟩) (Kd.R_far (p:=⟨gb329,0,none⟩) (Kd.R_mono HO313.out (fun k_ hk => (⟨hk,hk.2⟩ : _ ∧ k_ ≠ gb329))) (fun _ hk => hk.2) (.string t321)) (fun _ hk => hk.2) (.int .i64 t322)) (fun _ hk => hk.2) (.slice Ao101 t323.length co101)) (fun _ hk => hk.2) (.slice Ao102 t326.length co102)) (fun _ h_ => h_.1))) hb);have n2_:=Aside0.mk (Kd.R_below (by (with_reducible repeat (first | apply Kd.R_alloc | apply Kd.R_drewN | apply Kd.R_drew));exact (Kd.R_mono (Kd.R_far (p:=⟨gb329,3,none⟩) (Kd.R_far (p:=⟨gb329,2,none⟩) (Kd.R_far (p:=⟨gb329,1,none⟩) (Kd.R_far (p:=⟨gb329,0,none⟩) (Kd.R_types HO316.out BK329.out (by decide)) (fun _ hk => hk.2) (.string t321)) (fun _ hk => hk.2) (.int .i64 t322)) (fun _ hk => hk.2) (.slice Ao101 t323.length co101)) (fun _ hk => hk.2) (.slice Ao102 t326.length co102)) (fun _ h_ => h_.1))) hb);have n3_:=Aside0.mk (Kd.R_below (by (with_reducible repeat (first | apply Kd.R_alloc | apply Kd.R_drewN | apply Kd.R_drew));exact (Kd.R_mono (Kd.R_far (p:=⟨gb329,3,none⟩) (Kd.R_far (p:=⟨gb329,2,none⟩) (Kd.R_far (p:=⟨gb329,1,none⟩) (Kd.R_far (p:=⟨gb329,0,none⟩) (Kd.R_types HO320.out BK329.out (by decide)) (fun _ hk => hk.2) (.string t321)) (fun _ hk => hk.2) (.int .i64 t322)) (fun _ hk => hk.2) (.slice Ao101 t323.length co101)) (fun _ hk => hk.2) (.slice Ao102 t326.length co102)) (fun _ h_ => h_.1))) hb);have n4_:=Aside0.mk (Kd.R_below (by (with_reducible repeat (first | apply Kd.R_alloc | apply Kd.R_drewN | apply Kd.R_drew));exact (Kd.R_mono (Kd.R_far (p:=⟨gb329,3,none⟩) (Kd.R_far (p:=⟨gb329,2,none⟩) (Kd.R_far (p:=⟨gb329,1,none⟩) (Kd.R_far (p:=⟨gb329,0,none⟩) (Kd.R_mono HO325.out (fun k_ hk => (⟨hk,hk.2⟩ : _ ∧ k_ ≠ gb329))) (fun _ hk => hk.2) (.string t321)) (fun _ hk => hk.2) (.int .i64 t322)) (fun _ hk => hk.2) (.slice Ao101 t323.length co101)) (fun _ hk => hk.2) (.slice Ao102 t326.length co102)) (fun _ h_ => h_.1))) hb);have n5_:=Aside0.mk (Kd.R_below (by (with_reducible repeat (first | apply Kd.R_alloc | apply Kd.R_drewN | apply Kd.R_drew));exact (Kd.R_mono (Kd.R_far (p:=⟨gb329,3,none⟩) (Kd.R_far (p:=⟨gb329,2,none⟩) (Kd.R_far (p:=⟨gb329,1,none⟩) (Kd.R_far (p:=⟨gb329,0,none⟩) (Kd.R_types HO328.out BK329.out (by decide)) (fun _ hk => hk.2) (.string t321)) (fun _ hk => hk.2) (.int .i64 t322)) (fun _ hk => hk.2) (.slice Ao101 t323.length co101)) (fun _ hk => hk.2) (.slice Ao102 t326.length co102)) (fun _ h_ => h_.1))) hb);have n6_:=Aside0.mk (blk_below (g:=gb303) (o:=.cells #[.string a1_0,.int .i64 a1_1,.slice A1_2 l1_2.length c1_2,.slice A1_3 l1_3.length c1_3] 39 (0,0)) (by (with_reducible repeat (first | refine blk_drewN ?_ _ | refine blk_drew ?_ | refine blk_alloc ?_ _));refine blk_far ?_ NB303_329.out _;(with_reducible repeat (first | refine blk_drewN ?_ _ | refine blk_drew ?_ | refine blk_alloc ?_ _));refine blk_far ?_ NB303_329.out _;(with_reducible repeat (first | refine blk_drewN ?_ _ | refine blk_drew ?_ | refine blk_alloc ?_ _));refine blk_far ?_ NB303_329.out _;(with_reducible repeat (first | refine blk_drewN ?_ _ | refine blk_drew ?_ | refine blk_alloc ?_ _));refine blk_far ?_ NB303_329.out _;(with_reducible repeat (first | refine blk_drewN ?_ _ | refine blk_drew ?_ | refine blk_alloc ?_ _));exact BK303.out) hb);have n7_:=Aside0.mk (blk_below (g:=gb329) (o:=.cells #[.string t321,.int .i64 t322,.slice Ao101 t323.length co101,.slice Ao102 t326.length co102] 27 (0,0)) (by (with_reducible repeat (first | refine blk_drewN ?_ _ | refine blk_drew ?_ | refine blk_alloc ?_ _));refine blk_put (cs:=#[.string t321,.int .i64 t322,.slice Ao101 t323.length co101,.slice none 0 0]) ?_ 3 _ rfl;(with_reducible repeat (first | refine blk_drewN ?_ _ | refine blk_drew ?_ | refine blk_alloc ?_ _));refine blk_put (cs:=#[.string t321,.int .i64 t322,.slice none 0 0,.slice none 0 0]) ?_ 2 _ rfl;(with_reducible repeat (first | refine blk_drewN ?_ _ | refine blk_drew ?_ | refine blk_alloc ?_ _));refine blk_put (cs:=#[.string t321,.int .i64 0,.slice none 0 0,.slice none 0 0]) ?_ 1 _ rfl;(with_reducible repeat (first | refine blk_drewN ?_ _ | refine blk_drew ?_ | refine blk_alloc ?_ _));refine blk_put (cs:=#[.string (⟨#[]⟩ : ByteArray),.int .i64 0,.slice none 0 0,.slice none 0 0]) ?_ 0 _ rfl;(with_reducible repeat (first | refine blk_drewN ?_ _ | refine blk_drew ?_ | refine blk_alloc ?_ _));exact BK329.out) hb);have n8_:=Aside0.mk (below_step (by repeat (first | (with_reducible first | exact HB.out | apply below_alloc | apply pw_below_drewN | apply below_drew1 | refine below_set ?_ GE303.out | refine below_set ?_ GE329.out) | exact HB.out)) hb);clear HO308;clear HO313;clear HO316;clear HO320;clear HO325;clear HO328;clear BK303;clear BK329;clear HB;have HO308:=n0_;have HO313:=n1_;have HO316:=n2_;have HO320:=n3_;have HO325:=n4_;have HO328:=n5_;have BK303:=n6_;have BK329:=n7_;have HB:=n8_;clear n0_ n1_ n2_ n3_ n4_ n5_ n6_ n7_ n8_;(try clear hb);(try clear hb2);(try clear hk);(try clear hi)) | ((with_reducible refine gate_callee (f:=21) rfl ?_);refine goesL_ (some 37) rfl rfl Try.func21 (by kernel_rfl) rfl #[.slice A0 l0.length c0] rfl (by (try simp only [List.map_toArray,List.map_cons,List.map_nil]);first | done | rfl | (simp only [List.length_drop,List.length_take];rfl)) ?_;(with_reducible refine (laws_toRecordSS.calls k _ _ l0 t331 _ ?side1 ?side2 A20.out).mono ?_);(case side1 => repeat (first | exact (Kd.C_below HR0.out HB.out) | (with_reducible refine Kd.C_alloc ?_ _) | (with_reducible refine Kd.C_drewN ?_ _) | (with_reducible refine Kd.C_drew ?_)));(case side2 => exact HC0.out);rintro e w105 ⟨v332,rfl,ho0,hb⟩;refine ⟨_,rfl,?_⟩;have n0_:=Aside0.mk (Kd.R_elder' (Up.Rup HO308) (Kd.R_base ho0) hb);have n1_:=Up.RB HO313 hb;have n2_:=Up.RB HO316 hb;have n3_:=Aside0.mk (Kd.R_elder' (Up.Rup HO320) (Kd.R_base ho0) hb);have n4_:=Up.RB HO325 hb;have n5_:=Up.RB HO328 hb;have n6_:=Aside0.mk (Kd.R_lower (Kd.R_new' (Kd.R_new' ho0 (Kd.R_lt (Up.Rup HO308))) (Kd.R_lt (Up.Rup HO320))) (below_size (by repeat (first | (with_reducible first | exact HB.out | apply below_alloc | apply pw_below_drewN | apply below_drew1 | refine below_set ?_ GE303.out | refine below_set ?_ GE329.out) | exact HB.out))));have n7_:=Up.KB BK303 hb;have n8_:=Up.KB BK329 hb;have n9_:=Aside0.mk (below_step (by repeat (first | (with_reducible first | exact HB.out | apply below_alloc | apply pw_below_drewN | apply below_drew1 | refine below_set ?_ GE303.out | refine below_set ?_ GE329.out) | exact HB.out)) hb);clear HO308;clear HO313;clear HO316;clear HO320;clear HO325;clear HO328;clear BK303;clear BK329;clear HB;have HO308:=n0_;have HO313:=n1_;have HO316:=n2_;have HO320:=n3_;have HO325:=n4_;have HO328:=n5_;have HO333:=n6_;have BK303:=n7_;have BK329:=n8_;have HB:=n9_;clear n0_ n1_ n2_ n3_ n4_ n5_ n6_ n7_ n8_ n9_;(try clear hb);(try clear hb2);(try clear hk);(try clear hi);(try clear ho0);obtain ⟨Ao106,co106,eo106⟩:=Kd.R_slice HO333.out;subst eo106) | ((with_reducible refine gate_callee (f:=23) rfl ?_);refine goesL_ (some 38) rfl rfl Try.func23 (by kernel_rfl) rfl #[.slice Ao103 t318.length co103,.slice Ao106 t331.length co106] rfl (by (try simp only [List.map_toArray,List.map_cons,List.map_nil]);first | done | rfl | (simp only [List.length_drop,List.length_take];rfl)) ?_;(with_reducible refine (laws_eqRecordSS.calls k _ _ t318 _ _ t331 false _ ?side1 ?side2 ?side3 ?side4 A21.out).mono ?_);(case side1 => repeat (first | exact (Kd.R_reads' HO320.out).2.2 | (with_reducible refine Kd.C_alloc ?_ _) | (with_reducible refine Kd.C_drewN ?_ _) | (with_reducible refine Kd.C_drew ?_)));(case side2 => exact (Kd.R_reads' HO320.out).2.1);(case side3 => repeat (first | exact (Kd.R_reads' HO333.out).2.2 | (with_reducible refine Kd.C_alloc ?_ _) | (with_reducible refine Kd.C_drewN ?_ _) | (with_reducible refine Kd.C_drew ?_)));(case side4 => exact (Kd.R_reads' HO333.out).2.1);rintro e w107 ⟨rfl,hb⟩;refine ⟨_,rfl,?_⟩;have n0_:=Up.RB HO308 hb;have n1_:=Up.RB HO313 hb;have n2_:=Up.RB HO316 hb;have n3_:=Up.RB HO320 hb;have n4_:=Up.RB HO325 hb;have n5_:=Up.RB HO328 hb;have n6_:=Up.RB HO333 hb;have n7_:=Up.KB BK303 hb;have n8_:=Up.KB BK329 hb;have n9_:=Aside0.mk (below_step (by repeat (first | (with_reducible first | exact HB.out | apply below_alloc | apply pw_below_drewN | apply below_drew1 | refine below_set ?_ GE303.out | refine below_set ?_ GE329.out) | exact HB.out)) hb);clear HO308;clear HO313;clear HO316;clear HO320;clear HO325;clear HO328;clear HO333;clear BK303;clear BK329;clear HB;have HO308:=n0_;have HO313:=n1_;have HO316:=n2_;have HO320:=n3_;have HO325:=n4_;have HO328:=n5_;have HO333:=n6_;have BK303:=n7_;have BK329:=n8_;have HB:=n9_;clear n0_ n1_ n2_ n3_ n4_ n5_ n6_ n7_ n8_ n9_;(try clear hb);(try clear hb2);(try clear hk);(try clear hi)))
     go_ret
     exact ⟨by first | rfl | (simp [errW_none,errW_some] <;> rfl) | (simp [*,errW_none,errW_some] <;> rfl),by repeat (first | (with_reducible first | exact HB.out | apply below_alloc | apply pw_below_drewN | apply below_drew1 | refine below_set ?_ GE303.out | refine below_set ?_ GE329.out) | exact HB.out)⟩
   ·rw [if_neg c19] at H
    have c19b0 : (t330 == t317) = false:=beq_eq_false_iff_ne.mpr c19
    have c19b1 : (t330 != t317) = true:=bne_iff_ne.mpr c19
    obtain rfl:=Option.some.inj H
    go_enter Try.func6,Try.ntmps6
    try go_wp2_with (first | ((with_reducible refine gate_dst (N:=3) rfl ?_);refine box_event ?hg (N:=3) ?hd (cs:=#[.string a1_0,.int .i64 a1_1,.slice A1_2 l1_2.length c1_2,.slice A1_3 l1_3.length c1_3]) (t:=39) ?hr ?_;(case hd => rfl);(case hg => rfl);(case hr => first | (go_simp;done) | (go_simp;rfl));intro gb303 hg w108 hbox hb;have n0_:=Up.BB HB hb;have n1_:=Aside0.mk (hbox);have n2_:=Aside0.mk ((by rw [hg];exact (below_size (Up.Bup HB)) : w.heap.size ≤ gb303));have n3_:=Aside0.mk ((by rw [hg];exact (below_size (Up.Bup HB)) : w.heap.size ≤ gb303));clear HB;have HB:=n0_;have BK303:=n1_;have GW303:=n2_;have GE303:=n3_;clear n0_ n1_ n2_ n3_;clear hb hbox hg) | ((with_reducible refine gate_callee (f:=18) rfl ?_);refine goesL_ (some 12) rfl rfl Try.func18 (by kernel_rfl) rfl #[.slice A0 l0.length c0,.int .i64 1048576] rfl (by (try simp only [List.map_toArray,List.map_cons,List.map_nil]);first | done | rfl | (simp only [List.length_drop,List.length_take];rfl)) ?_;(with_reducible refine (laws_szRecordSS.calls k _ _ l0 1048576 t304 _ ?side1 ?side2 A3.out).mono ?_);(case side1 => repeat (first | exact (Kd.C_below HR0.out HB.out) | (with_reducible refine Kd.C_alloc ?_ _) | (with_reducible refine Kd.C_drewN ?_ _) | (with_reducible refine Kd.C_drew ?_)));(case side2 => exact HC0.out);rintro e w109 ⟨rfl,hb⟩;refine ⟨_,rfl,?_⟩;have n0_:=Up.KB BK303 hb;have n1_:=Aside0.mk (below_step (by repeat (first | (with_reducible first | exact HB.out | apply below_alloc | apply pw_below_drewN | apply below_drew1 | refine below_set ?_ GE303.out) | exact HB.out)) hb);clear BK303;clear HB;have BK303:=n0_;have HB:=n1_;clear n0_ n1_;(try clear hb);(try clear hb2);(try clear hk);(try clear hi);have hcz110_0 : w109.cell? ⟨gb303,0,none⟩ = some (.string a1_0):=(blk_cell BK303.out 0).trans rfl;have hcz110_1 : w109.cell? ⟨gb303,1,none⟩ = some (.int .i64 a1_1):=(blk_cell BK303.out 1).trans rfl;have hcz110_2 : w109.cell? ⟨gb303,2,none⟩ = some (.slice A1_2 l1_2.length c1_2):=(blk_cell BK303.out 2).trans rfl;have hcz110_3 : w109.cell? ⟨gb303,3,none⟩ = some (.slice A1_3 l1_3.length c1_3):=(blk_cell BK303.out 3).trans rfl;have hfz110_0:=blk_frozen BK303.out 0;have hfz110_1:=blk_frozen BK303.out 1;have hfz110_2:=blk_frozen BK303.out 2;have hfz110_3:=blk_frozen BK303.out 3) | ((with_reducible refine gate_callee (f:=19) rfl ?_);refine goesL_ (some 17) rfl rfl Try.func19 (by kernel_rfl) rfl #[.agg #[.string a1_0,.int .i64 a1_1,.slice A1_2 l1_2.length c1_2,.slice A1_3 l1_3.length c1_3],.int .i64 t304] rfl (by (try simp only [List.map_toArray,List.map_cons,List.map_nil]);first | done | rfl | (simp only [List.length_drop,List.length_take];rfl)) ?_;(with_reducible refine (laws_szValue.calls k a1_0 a1_1 _ _ l1_2 _ _ l1_3 t304 t305 _ ?side1 ?side2 ?side3 ?side4 A7.out).mono ?_);(case side1 => repeat (first | exact (Kd.C_below HR1_2.out HB.out) | (with_reducible refine Kd.C_alloc ?_ _) | (with_reducible refine Kd.C_drewN ?_ _) | (with_reducible refine Kd.C_drew ?_)));(case side2 => exact HC1_2.out);(case side3 => repeat (first | exact (Kd.C_below HR1_3.out HB.out) | (with_reducible refine Kd.C_alloc ?_ _) | (with_reducible refine Kd.C_drewN ?_ _) | (with_reducible refine Kd.C_drew ?_)));(case side4 => exact HC1_3.out);rintro e w111 ⟨rfl,hb⟩;refine ⟨_,rfl,?_⟩;have n0_:=Up.KB BK303 hb;have n1_:=Aside0.mk (below_step (by repeat (first | (with_reducible first | exact HB.out | apply below_alloc | apply pw_below_drewN | apply below_drew1 | refine below_set ?_ GE303.out) | exact HB.out)) hb);clear BK303;clear HB;have BK303:=n0_;have HB:=n1_;clear n0_ n1_;(try clear hb);(try clear hb2);(try clear hk);(try clear hi)))
    have n0_:=Aside0.mk (blk_drew BK303.out)
    have n1_:=Aside0.mk (below_drew1 HB.out)
    clear BK303
    clear HB
    have BK303:=n0_
    have HB:=n1_
    clear n0_ n1_
    refine start_ (n:=6) (S:=fun w' => w'.cell? ⟨gb303,0,none⟩ = some (.string a1_0) ∧ w'.cell? ⟨gb303,1,none⟩ = some (.int .i64 a1_1) ∧ w'.cell? ⟨gb303,2,none⟩ = some (.slice A1_2 l1_2.length c1_2) ∧ w'.cell? ⟨gb303,3,none⟩ = some (.slice A1_3 l1_3.length c1_3)) (ds:=[]) #[false,false,false,false,false,false] (by kernel_rfl) rfl rfl ⟨(blk_cell BK303.out 0).trans rfl,(blk_cell BK303.out 1).trans rfl,(blk_cell BK303.out 2).trans rfl,(blk_cell BK303.out 3).trans rfl⟩ (fun hHeld => ?_)
    generalize w111.drew = w112 at BK303 HB hHeld ⊢
    refine pure_ (i:=0) (N:=some 20) (v:=?_) (a':=?_) #[true,false,false,false,false,false] rfl rfl (by kernel_rfl) (fun _ _ _ h => h) (Or.inl ⟨by rfl,?_⟩) ?_ ?_
    rotate_left
    ·intro w'
     go_simp
     with_reducible rfl
    rotate_left
    ·simp only [Act.put,List.setIfInBounds_toArray,List.set_cons_zero,List.set_cons_succ,i64_w,i32_w]
     rfl
    refine take_ (i:=2) (N:=some 22) (v:=?_) (a':=?_) #[true,false,true,false,false,false] rfl rfl (by kernel_rfl) (fun _ _ _ h => h) (Or.inl ⟨by rfl,?_⟩) hHeld ?_ ?_
    rotate_left
    ·rintro w' ⟨s0,s1,s2,s3⟩
     go_simp
     with_reducible rfl
    rotate_left
    ·simp only [Act.put,List.setIfInBounds_toArray,List.set_cons_zero,List.set_cons_succ,i64_w,i32_w]
     rfl
    refine one_ (i:=1) (N:=some 21) #[true,true,true,false,false,false] rfl rfl (by kernel_rfl) (by decide) (fun K hK => ?_)
    refine goes_ Try.func21 (by kernel_rfl) rfl #[.slice A0 l0.length c0] (by rfl) rfl rfl (by (try simp only [List.map_toArray,List.map_cons,List.map_nil]);first | done | rfl | (simp only [List.length_drop,List.length_take];rfl)) ?_
    with_reducible refine (laws_toRecordSS.calls k _ _ l0 t306 _ ?side1 ?side2 A13.out).mono ?_
    (case side1 => repeat (first | exact (Kd.C_below HR0.out HB.out) | (with_reducible refine Kd.C_alloc ?_ _) | (with_reducible refine Kd.C_drewN ?_ _) | (with_reducible refine Kd.C_drew ?_)))
    (case side2 => exact HC0.out)
    rintro e w113 ⟨v307,rfl,ho0,hb⟩
    refine ⟨_,rfl,?_⟩
    have n0_:=Aside0.mk (Kd.R_lower ho0 (below_size (by repeat (first | (with_reducible first | exact HB.out | apply below_alloc | apply pw_below_drewN | apply below_drew1 | refine below_set ?_ GE303.out) | exact HB.out))))
    have n1_:=Up.KB BK303 hb
    have n2_:=Aside0.mk (below_step (by repeat (first | (with_reducible first | exact HB.out | apply below_alloc | apply pw_below_drewN | apply below_drew1 | refine below_set ?_ GE303.out) | exact HB.out)) hb)
    clear BK303
    clear HB
    have HO308:=n0_
    have BK303:=n1_
    have HB:=n2_
    clear n0_ n1_ n2_
    (try clear hb)
    (try clear hb2)
    (try clear hk)
    (try clear hi)
    (try clear ho0)
    refine hK.out _ _ ⟨(blk_cell BK303.out 0).trans rfl,(blk_cell BK303.out 1).trans rfl,(blk_cell BK303.out 2).trans rfl,(blk_cell BK303.out 3).trans rfl⟩ (fun hHeld => ?_)
    clear hK K
    refine norm_ (a':=?_) ?_ ?_
    rotate_left
    ·show Act.put _ (some 21) _ = _
     simp only [Act.put,List.setIfInBounds_toArray,List.set_cons_zero,List.set_cons_succ,i64_w,i32_w]
     rfl
    refine one_ (i:=3) (N:=some 23) #[true,true,true,true,false,false] rfl rfl (by kernel_rfl) (by decide) (fun K hK => ?_)
    refine goes_ Try.func22 (by kernel_rfl) rfl #[.agg #[.string a1_0,.int .i64 a1_1,.slice A1_2 l1_2.length c1_2,.slice A1_3 l1_3.length c1_3]] (by rfl) rfl rfl (by (try simp only [List.map_toArray,List.map_cons,List.map_nil]);first | done | rfl | (simp only [List.length_drop,List.length_take];rfl)) ?_
    with_reducible refine (laws_toValue.calls k a1_0 a1_1 _ _ l1_2 _ _ l1_3 t309 t310 t311 t314 _ ?side1 ?side2 ?side3 ?side4 A14.out).mono ?_
    (case side1 => repeat (first | exact (Kd.C_below HR1_2.out HB.out) | (with_reducible refine Kd.C_alloc ?_ _) | (with_reducible refine Kd.C_drewN ?_ _) | (with_reducible refine Kd.C_drew ?_)))
    (case side2 => exact HC1_2.out)
    (case side3 => repeat (first | exact (Kd.C_below HR1_3.out HB.out) | (with_reducible refine Kd.C_alloc ?_ _) | (with_reducible refine Kd.C_drewN ?_ _) | (with_reducible refine Kd.C_drew ?_)))
    (case side4 => exact HC1_3.out)
    rintro e w114 ⟨v312,v315,rfl,ho0,ho1,hb⟩
    refine ⟨_,rfl,?_⟩
    have n0_:=Up.RB HO308 hb
    have n1_:=Aside0.mk (Kd.R_lower ho0 (below_size (by repeat (first | (with_reducible first | exact HB.out | apply below_alloc | apply pw_below_drewN | apply below_drew1 | refine below_set ?_ GE303.out) | exact HB.out))))
    have n2_:=Aside0.mk (Kd.R_lower ho1 (below_size (by repeat (first | (with_reducible first | exact HB.out | apply below_alloc | apply pw_below_drewN | apply below_drew1 | refine below_set ?_ GE303.out) | exact HB.out))))
    have n3_:=Up.KB BK303 hb
    have n4_:=Aside0.mk (below_step (by repeat (first | (with_reducible first | exact HB.out | apply below_alloc | apply pw_below_drewN | apply below_drew1 | refine below_set ?_ GE303.out) | exact HB.out)) hb)
    clear HO308
    clear BK303
    clear HB
    have HO308:=n0_
    have HO313:=n1_
    have HO316:=n2_
    have BK303:=n3_
    have HB:=n4_
    clear n0_ n1_ n2_ n3_ n4_
    (try clear hb)
    (try clear hb2)
    (try clear hk)
    (try clear hi)
    (try clear ho0)
    (try clear ho1)
    obtain ⟨Ao115,co115,eo115⟩:=Kd.R_slice HO308.out
    (first | subst eo115 | (injection eo115 with f1_ f2_ f3_;have f4_:=f1_.symm;have f5_:=f3_.symm;clear f1_ f2_ f3_;subst f4_;subst f5_))
    obtain ⟨Ao116,co116,eo116⟩:=Kd.R_slice HO313.out
    (first | subst eo116 | (injection eo116 with f1_ f2_ f3_;have f4_:=f1_.symm;have f5_:=f3_.symm;clear f1_ f2_ f3_;subst f4_;subst f5_))
    obtain ⟨Ao117,co117,eo117⟩:=Kd.R_slice HO316.out
    (first | subst eo117 | (injection eo117 with f1_ f2_ f3_;have f4_:=f1_.symm;have f5_:=f3_.symm;clear f1_ f2_ f3_;subst f4_;subst f5_))
    refine hK.out _ _ ⟨(blk_cell BK303.out 0).trans rfl,(blk_cell BK303.out 1).trans rfl,(blk_cell BK303.out 2).trans rfl,(blk_cell BK303.out 3).trans rfl⟩ (fun hHeld => ?_)
    clear hK K
    refine norm_ (a':=?_) ?_ ?_
    rotate_left
    ·show Act.put _ (some 23) _ = _
     simp only [Act.put,List.setIfInBounds_toArray,List.set_cons_zero,List.set_cons_succ,i64_w,i32_w]
     rfl
    refine one_ (i:=4) (N:=some 24) #[true,true,true,true,true,false] rfl rfl (by kernel_rfl) (by decide) (fun K hK => ?_)
    refine goes_ Try.func13 (by kernel_rfl) rfl #[.slice Ao115 t306.length co115,.agg #[.string t309,.int .i64 t310,.slice Ao116 t311.length co116,.slice Ao117 t314.length co117]] (by rfl) rfl rfl (by (try simp only [List.map_toArray,List.map_cons,List.map_nil]);first | done | rfl | (simp only [List.length_drop,List.length_take];rfl)) ?_
    with_reducible refine (spec_ValueSize.calls k _ _ t306 t309 t310 _ _ t311 _ _ t314 t317 _ ?side1 ?side2 ?side3 ?side4 ?side5 ?side6 A15.out).mono ?_
    (case side1 => repeat (first | exact (Kd.R_reads' HO308.out).2.2 | (with_reducible refine Kd.C_alloc ?_ _) | (with_reducible refine Kd.C_drewN ?_ _) | (with_reducible refine Kd.C_drew ?_)))
    (case side2 => exact (Kd.R_reads' HO308.out).2.1)
    (case side3 => repeat (first | exact (Kd.R_reads' HO313.out).2.2 | (with_reducible refine Kd.C_alloc ?_ _) | (with_reducible refine Kd.C_drewN ?_ _) | (with_reducible refine Kd.C_drew ?_)))
    (case side4 => exact (Kd.R_reads' HO313.out).2.1)
    (case side5 => repeat (first | exact (Kd.R_reads' HO316.out).2.2 | (with_reducible refine Kd.C_alloc ?_ _) | (with_reducible refine Kd.C_drewN ?_ _) | (with_reducible refine Kd.C_drew ?_)))
    (case side6 => exact (Kd.R_reads' HO316.out).2.1)
    rintro e w118 ⟨rfl,hb⟩
    refine ⟨_,rfl,?_⟩
    have n0_:=Up.RB HO308 hb
    have n1_:=Up.RB HO313 hb
    have n2_:=Up.RB HO316 hb
    have n3_:=Up.KB BK303 hb
    have n4_:=Aside0.mk (below_step (by repeat (first | (with_reducible first | exact HB.out | apply below_alloc | apply pw_below_drewN | apply below_drew1 | refine below_set ?_ GE303.out) | exact HB.out)) hb)
    clear HO308
    clear HO313
    clear HO316
    clear BK303
    clear HB
    have HO308:=n0_
    have HO313:=n1_
    have HO316:=n2_
    have BK303:=n3_
    have HB:=n4_
    clear n0_ n1_ n2_ n3_ n4_
    (try clear hb)
    (try clear hb2)
    (try clear hk)
    (try clear hi)
    refine hK.out _ _ ⟨(blk_cell BK303.out 0).trans rfl,(blk_cell BK303.out 1).trans rfl,(blk_cell BK303.out 2).trans rfl,(blk_cell BK303.out 3).trans rfl⟩ (fun hHeld => ?_)
    clear hK K
    refine norm_ (a':=?_) ?_ ?_
    rotate_left
    ·show Act.put _ (some 24) _ = _
     simp only [Act.put,List.setIfInBounds_toArray,List.set_cons_zero,List.set_cons_succ,i64_w,i32_w]
     rfl
    refine pure_ (i:=5) (N:=some 6) (v:=?_) (a':=?_) #[true,true,true,true,true,true] rfl rfl (by kernel_rfl) (fun _ _ _ h => h) (Or.inl ⟨by rfl,?_⟩) ?_ ?_
    rotate_left
    ·intro w'
     go_simp
     with_reducible rfl
    rotate_left
    ·simp only [Act.put,List.setIfInBounds_toArray,List.set_cons_zero,List.set_cons_succ,i64_w,i32_w]
     rfl
    refine done_ (by kernel_rfl) ?_
    try go_wp2_with (first | ((with_reducible refine gate_callee (f:=21) rfl ?_);refine goesL_ (some 26) rfl rfl Try.func21 (by kernel_rfl) rfl #[.slice A0 l0.length c0] rfl (by (try simp only [List.map_toArray,List.map_cons,List.map_nil]);first | done | rfl | (simp only [List.length_drop,List.length_take];rfl)) ?_;(with_reducible refine (laws_toRecordSS.calls k _ _ l0 t318 _ ?side1 ?side2 A16.out).mono ?_);(case side1 => repeat (first | exact (Kd.C_below HR0.out HB.out) | (with_reducible refine Kd.C_alloc ?_ _) | (with_reducible refine Kd.C_drewN ?_ _) | (with_reducible refine Kd.C_drew ?_)));(case side2 => exact HC0.out);rintro e w119 ⟨v319,rfl,ho0,hb⟩;refine ⟨_,rfl,?_⟩;have n0_:=Aside0.mk (Kd.R_elder' (Up.Rup HO308) (Kd.R_base ho0) hb);have n1_:=Up.RB HO313 hb;have n2_:=Up.RB HO316 hb;have n3_:=Aside0.mk (Kd.R_lower (Kd.R_new' ho0 (Kd.R_lt (Up.Rup HO308))) (below_size (by repeat (first | (with_reducible first | exact HB.out | apply below_alloc | apply pw_below_drewN | apply below_drew1 | refine below_set ?_ GE303.out) | exact HB.out))));have n4_:=Up.KB BK303 hb;have n5_:=Aside0.mk (below_step (by repeat (first | (with_reducible first | exact HB.out | apply below_alloc | apply pw_below_drewN | apply below_drew1 | refine below_set ?_ GE303.out) | exact HB.out)) hb);clear HO308;clear HO313;clear HO316;clear BK303;clear HB;have HO308:=n0_;have HO313:=n1_;have HO316:=n2_;have HO320:=n3_;have BK303:=n4_;have HB:=n5_;clear n0_ n1_ n2_ n3_ n4_ n5_;(try clear hb);(try clear hb2);(try clear hk);(try clear hi);(try clear ho0);have hcz120_0 : w119.cell? ⟨gb303,0,none⟩ = some (.string a1_0):=(blk_cell BK303.out 0).trans rfl;have hcz120_1 : w119.cell? ⟨gb303,1,none⟩ = some (.int .i64 a1_1):=(blk_cell BK303.out 1).trans rfl;have hcz120_2 : w119.cell? ⟨gb303,2,none⟩ = some (.slice A1_2 l1_2.length c1_2):=(blk_cell BK303.out 2).trans rfl;have hcz120_3 : w119.cell? ⟨gb303,3,none⟩ = some (.slice A1_3 l1_3.length c1_3):=(blk_cell BK303.out 3).trans rfl;have hfz120_0:=blk_frozen BK303.out 0;have hfz120_1:=blk_frozen BK303.out 1;have hfz120_2:=blk_frozen BK303.out 2;have hfz120_3:=blk_frozen BK303.out 3) | ((with_reducible refine gate_callee (f:=22) rfl ?_);refine goesL_ (some 28) rfl rfl Try.func22 (by kernel_rfl) rfl #[.agg #[.string a1_0,.int .i64 a1_1,.slice A1_2 l1_2.length c1_2,.slice A1_3 l1_3.length c1_3]] rfl (by (try simp only [List.map_toArray,List.map_cons,List.map_nil]);first | done | rfl | (simp only [List.length_drop,List.length_take];rfl)) ?_;(with_reducible refine (laws_toValue.calls k a1_0 a1_1 _ _ l1_2 _ _ l1_3 t321 t322 t323 t326 _ ?side1 ?side2 ?side3 ?side4 A17.out).mono ?_);(case side1 => repeat (first | exact (Kd.C_below HR1_2.out HB.out) | (with_reducible refine Kd.C_alloc ?_ _) | (with_reducible refine Kd.C_drewN ?_ _) | (with_reducible refine Kd.C_drew ?_)));(case side2 => exact HC1_2.out);(case side3 => repeat (first | exact (Kd.C_below HR1_3.out HB.out) | (with_reducible refine Kd.C_alloc ?_ _) | (with_reducible refine Kd.C_drewN ?_ _) | (with_reducible refine Kd.C_drew ?_)));(case side4 => exact HC1_3.out);rintro e w121 ⟨v324,v327,rfl,ho0,ho1,hb⟩;refine ⟨_,rfl,?_⟩;have n0_:=Up.RB HO308 hb;have n1_:=Aside0.mk (Kd.R_mono (Kd.R_told (Kd.R_told (Kd.R_old (Up.Rup HO313) hb) (Kd.R_base ho0)) (Kd.R_base ho1)) (fun _ h_ => h_.1));have n2_:=Aside0.mk (Kd.R_elder' (Up.Rup HO316) (Kd.R_base ho1) hb);have n3_:=Up.RB HO320 hb;have n4_:=Aside0.mk (Kd.R_lower (Kd.R_new' (Kd.R_new' ho0 (Kd.R_lt (Up.Rup HO313))) (Kd.R_lt (Up.Rup HO316))) (below_size (by repeat (first | (with_reducible first | exact HB.out | apply below_alloc | apply pw_below_drewN | apply below_drew1 | refine below_set ?_ GE303.out) | exact HB.out))));have n5_:=Aside0.mk (Kd.R_lower (Kd.R_new' ho1 (Kd.R_lt (Up.Rup HO316))) (below_size (by repeat (first | (with_reducible first | exact HB.out | apply below_alloc | apply pw_below_drewN | apply below_drew1 | refine below_set ?_ GE303.out) | exact HB.out))));have n6_:=Up.KB BK303 hb;have n7_:=Aside0.mk (below_step (by repeat (first | (with_reducible first | exact HB.out | apply below_alloc | apply pw_below_drewN | apply below_drew1 | refine below_set ?_ GE303.out) | exact HB.out)) hb);clear HO308;clear HO313;clear HO316;clear HO320;clear BK303;clear HB;have HO308:=n0_;have HO313:=n1_;have HO316:=n2_;have HO320:=n3_;have HO325:=n4_;have HO328:=n5_;have BK303:=n6_;have HB:=n7_;clear n0_ n1_ n2_ n3_ n4_ n5_ n6_ n7_;(try clear hb);(try clear hb2);(try clear hk);(try clear hi);(try clear ho0);(try clear ho1)) | ((with_reducible refine gate_dst (N:=8) rfl ?_);refine box_event ?hg (N:=8) ?hd (cs:=#[.string (⟨#[]⟩ : ByteArray),.int .i64 0,.slice none 0 0,.slice none 0 0]) (t:=27) ?hr ?_;(case hd => rfl);(case hg => rfl);(case hr => first | (go_simp;done) | (go_simp;rfl));intro gb329 hg w122 hbox hb;have n0_:=Up.RB HO308 hb;have n1_:=Aside0.mk (Kd.R_below (Kd.R_elderB (Up.Rup HO313) gb329 (Nat.le_of_eq hg.symm)) hb);have n2_:=Up.RB HO316 hb;have n3_:=Up.RB HO320 hb;have n4_:=Aside0.mk (Kd.R_below (Kd.R_elderB (Up.Rup HO325) gb329 (Nat.le_of_eq hg.symm)) hb);have n5_:=Up.RB HO328 hb;have n6_:=Up.KB BK303 hb;have n7_:=Aside0.mk (below_step (by repeat (first | (with_reducible first | exact HB.out | apply below_alloc | apply pw_below_drewN | apply below_drew1 | refine below_set ?_ GE303.out) | exact HB.out)) hb);have n8_:=Aside0.mk (hbox);have n9_:=Aside0.mk ((by rw [hg];exact (below_size (by repeat (first | (with_reducible first | exact HB.out | apply below_alloc | apply pw_below_drewN | apply below_drew1 | refine below_set ?_ GE303.out) | exact HB.out))) : w.heap.size ≤ gb329));have n10_:=Aside0.mk ((by rw [hg];exact (below_size (by repeat (first | (with_reducible first | exact HB.out | apply below_alloc | apply pw_below_drewN | apply below_drew1 | refine below_set ?_ GE303.out) | exact HB.out))) : w.heap.size ≤ gb329));have n11_:=Aside0.mk ((by rw [hg];exact Nat.ne_of_lt (blk_lt (g:=gb303) (o:=.cells #[.string a1_0,.int .i64 a1_1,.slice A1_2 l1_2.length c1_2,.slice A1_3 l1_3.length c1_3] 39 (0,0)) (Up.Kup BK303)) : gb303 ≠ gb329));have n12_:=Aside0.mk ((by rw [hg];exact Nat.ne_of_gt (blk_lt (g:=gb303) (o:=.cells #[.string a1_0,.int .i64 a1_1,.slice A1_2 l1_2.length c1_2,.slice A1_3 l1_3.length c1_3] 39 (0,0)) (Up.Kup BK303)) : gb329 ≠ gb303));clear HO308;clear HO313;clear HO316;clear HO320;clear HO325;clear HO328;clear BK303;clear HB;have HO308:=n0_;have HO313:=n1_;have HO316:=n2_;have HO320:=n3_;have HO325:=n4_;have HO328:=n5_;have BK303:=n6_;have HB:=n7_;have BK329:=n8_;have GW329:=n9_;have GE329:=n10_;have NB303_329:=n11_;have NB329_303:=n12_;clear n0_ n1_ n2_ n3_ n4_ n5_ n6_ n7_ n8_ n9_ n10_ n11_ n12_;clear hb hbox hg;have hnb123:=NB329_303.out;have hnc123:=NB303_329.out;have hcz124_0 : w122.cell? ⟨gb329,0,none⟩ = some (.string (⟨#[]⟩ : ByteArray)):=(blk_cell BK329.out 0).trans rfl;have hcz124_1 : w122.cell? ⟨gb329,1,none⟩ = some (.int .i64 0):=(blk_cell BK329.out 1).trans rfl;have hcz124_2 : w122.cell? ⟨gb329,2,none⟩ = some (.slice none 0 0):=(blk_cell BK329.out 2).trans rfl;have hcz124_3 : w122.cell? ⟨gb329,3,none⟩ = some (.slice none 0 0):=(blk_cell BK329.out 3).trans rfl;have hfz124_0:=blk_frozen BK329.out 0;have hfz124_1:=blk_frozen BK329.out 1;have hfz124_2:=blk_frozen BK329.out 2;have hfz124_3:=blk_frozen BK329.out 3;obtain ⟨Ao125,co125,eo125⟩:=Kd.R_slice HO325.out;subst eo125;obtain ⟨Ao126,co126,eo126⟩:=Kd.R_slice HO328.out;subst eo126;obtain ⟨Ao127,co127,eo127⟩:=Kd.R_slice HO320.out;subst eo127) | ((with_reducible refine gate_callee (f:=12) rfl ?_);refine goesL_ (some 31) rfl rfl Try.func12 (by kernel_rfl) rfl #[.slice Ao127 t318.length co127,.agg #[.string t321,.int .i64 t322,.slice Ao125 t323.length co125,.slice Ao126 t326.length co126]] rfl (by (try simp only [List.map_toArray,List.map_cons,List.map_nil]);first | done | rfl | (simp only [List.length_drop,List.length_take];rfl)) ?_;(with_reducible refine (impl_ValueSize.calls k _ _ t318 t321 t322 _ _ t323 _ _ t326 t330 _ ?side1 ?side2 ?side3 ?side4 ?side5 ?side6 A18.out).mono ?_);(case side1 => refine (Kd.R_reads' (e:=82) (base:=w.heap.size) (ok:=fun k_ => (True ∧ some k_ ≠ (.slice Ao115 t306.length co115 : Value).ownBlock)) (n:=t318.length) (c:=co127) ?_).2.2;exact (by (with_reducible repeat (first | apply Kd.R_alloc | apply Kd.R_drewN | apply Kd.R_drew));exact (Kd.R_mono (Kd.R_far (p:=⟨gb329,3,none⟩) (Kd.R_far (p:=⟨gb329,2,none⟩) (Kd.R_far (p:=⟨gb329,1,none⟩) (Kd.R_far (p:=⟨gb329,0,none⟩) (Kd.R_types HO320.out BK329.out (by decide)) (fun _ hk => hk.2) (.string t321)) (fun _ hk => hk.2) (.int .i64 t322)) (fun _ hk => hk.2) (.slice Ao125 t323.length co125)) (fun _ hk => hk.2) (.slice Ao126 t326.length co126)) (fun _ h_ => h_.1))));(case side2 => exact (Kd.R_reads' HO320.out).2.1);(case side3 => refine (Kd.R_reads' (e:=27) (base:=w.heap.size) (ok:=fun k_ => (((some k_ ≠ (.slice Ao126 t326.length co126 : Value).ownBlock ∧ some k_ ≠ (.slice Ao116 t311.length co116 : Value).ownBlock) ∧ some k_ ≠ (.slice Ao117 t314.length co117 : Value).ownBlock) ∧ k_ ≠ gb329)) (n:=t323.length) (c:=co125) ?_).2.2;exact (by (with_reducible repeat (first | apply Kd.R_alloc | apply Kd.R_drewN | apply Kd.R_drew));exact (Kd.R_mono (Kd.R_far (p:=⟨gb329,3,none⟩) (Kd.R_far (p:=⟨gb329,2,none⟩) (Kd.R_far (p:=⟨gb329,1,none⟩) (Kd.R_far (p:=⟨gb329,0,none⟩) (Kd.R_mono HO325.out (fun k_ hk => (⟨hk,hk.2⟩ : _ ∧ k_ ≠ gb329))) (fun _ hk => hk.2) (.string t321)) (fun _ hk => hk.2) (.int .i64 t322)) (fun _ hk => hk.2) (.slice Ao125 t323.length co125)) (fun _ hk => hk.2) (.slice Ao126 t326.length co126)) (fun _ h_ => h_.1))));(case side4 => exact (Kd.R_reads' HO325.out).2.1);(case side5 => refine (Kd.R_reads' (e:=3) (base:=w.heap.size) (ok:=fun k_ => (True ∧ some k_ ≠ (.slice Ao117 t314.length co117 : Value).ownBlock)) (n:=t326.length) (c:=co126) ?_).2.2;exact (by (with_reducible repeat (first | apply Kd.R_alloc | apply Kd.R_drewN | apply Kd.R_drew));exact (Kd.R_mono (Kd.R_far (p:=⟨gb329,3,none⟩) (Kd.R_far (p:=⟨gb329,2,none⟩) (Kd.R_far (p:=⟨gb329,1,none⟩) (Kd.R_far (p:=⟨gb329,0,none⟩) (Kd.R_types HO328.out BK329.out (by decide)) (fun _ hk => hk.2) (.string t321)) (fun _ hk => hk.2) (.int .i64 t322)) (fun _ hk => hk.2) (.slice Ao125 t323.length co125)) (fun _ hk => hk.2) (.slice Ao126 t326.length co126)) (fun _ h_ => h_.1))));(case side6 => exact (Kd.R_reads' HO328.out).2.1);rintro e w128 ⟨rfl,hb⟩;refine ⟨_,rfl,?_⟩;have n0_:=Aside0.mk (Kd.R_below (by (with_reducible repeat (first | apply Kd.R_alloc | apply Kd.R_drewN | apply Kd.R_drew));exact (Kd.R_mono (Kd.R_far (p:=⟨gb329,3,none⟩) (Kd.R_far (p:=⟨gb329,2,none⟩) (Kd.R_far (p:=⟨gb329,1,none⟩) (Kd.R_far (p:=⟨gb329,0,none⟩) (Kd.R_types HO308.out BK329.out (by decide)) (fun _ hk => hk.2) (.string t321)) (fun _ hk => hk.2) (.int .i64 t322)) (fun _ hk => hk.2) (.slice Ao125 t323.length co125)) (fun _ hk => hk.2) (.slice Ao126 t326.length co126)) (fun _ h_ => h_.1))) hb);have n1_:=Aside0.mk (Kd.R_below (by (with_reducible repeat (first | apply Kd.R_alloc | apply Kd.R_drewN | apply Kd.R_drew));exact (Kd.R_mono (Kd.R_far (p:=⟨gb329,3,none⟩) (Kd.R_far (p:=⟨gb329,2,none⟩) (Kd.R_far (p:=⟨gb329,1,none⟩) (Kd.R_far (p:=⟨gb329,0,none⟩) (Kd.R_mono HO313.out (fun k_ hk => (⟨hk,hk.2⟩ : _ ∧ k_ ≠ gb329))) (fun _ hk => hk.2) (.string t321)) (fun _ hk => hk.2) (.int .i64 t322)) (fun _ hk => hk.2) (.slice Ao125 t323.length co125)) (fun _ hk => hk.2) (.slice Ao126 t326.length co126)) (fun _ h_ => h_.1))) hb);have n2_:=Aside0.mk (Kd.R_below (by (with_reducible repeat (first | apply Kd.R_alloc | apply Kd.R_drewN | apply Kd.R_drew));exact (Kd.R_mono (Kd.R_far (p:=⟨gb329,3,none⟩) (Kd.R_far (p:=⟨gb329,2,none⟩) (Kd.R_far (p:=⟨gb329,1,none⟩) (Kd.R_far (p:=⟨gb329,0,none⟩) (Kd.R_types HO316.out BK329.out (by decide)) (fun _ hk => hk.2) (.string t321)) (fun _ hk => hk.2) (.int .i64 t322)) (fun _ hk => hk.2) (.slice Ao125 t323.length co125)) (fun _ hk => hk.2) (.slice Ao126 t326.length co126)) (fun _ h_ => h_.1))) hb);have n3_:=Aside0.mk (Kd.R_below (by (with_reducible repeat (first | apply Kd.R_alloc | apply Kd.R_drewN | apply Kd.R_drew));exact (Kd.R_mono (Kd.R_far (p:=⟨gb329,3,none⟩) (Kd.R_far (p:=⟨gb329,2,none⟩) (Kd.R_far (p:=⟨gb329,1,none⟩) (Kd.R_far (p:=⟨gb329,0,none⟩) (Kd.R_types HO320.out BK329.out (by decide)) (fun _ hk => hk.2) (.string t321)) (fun _ hk => hk.2) (.int .i64 t322)) (fun _ hk => hk.2) (.slice Ao125 t323.length co125)) (fun _ hk => hk.2) (.slice Ao126 t326.length co126)) (fun _ h_ => h_.1))) hb);have n4_:=Aside0.mk (Kd.R_below (by (with_reducible repeat (first | apply Kd.R_alloc | apply Kd.R_drewN | apply Kd.R_drew));exact (Kd.R_mono (Kd.R_far (p:=⟨gb329,3,none⟩) (Kd.R_far (p:=⟨gb329,2,none⟩) (Kd.R_far (p:=⟨gb329,1,none⟩) (Kd.R_far (p:=⟨gb329,0,none⟩) (Kd.R_mono HO325.out (fun k_ hk => (⟨hk,hk.2⟩ : _ ∧ k_ ≠ gb329))) (fun _ hk => hk.2) (.string t321)) (fun _ hk => hk.2) (.int .i64 t322)) (fun _ hk => hk.2) (.slice Ao125 t323.length co125)) (fun _ hk => hk.2) (.slice Ao126 t326.length co126)) (fun _ h_ => h_.1))) hb);have n5_:=Aside0.mk (Kd.R_below (by (with_reducible repeat (first | apply Kd.R_alloc | apply Kd.R_drewN | apply Kd.R_drew));exact (Kd.R_mono (Kd.R_far (p:=⟨gb329,3,none⟩) (Kd.R_far (p:=⟨gb329,2,none⟩) (Kd.R_far (p:=⟨gb329,1,none⟩) (Kd.R_far (p:=⟨gb329,0,none⟩) (Kd.R_types HO328.out BK329.out (by decide)) (fun _ hk => hk.2) (.string t321)) (fun _ hk => hk.2) (.int .i64 t322)) (fun _ hk => hk.2) (.slice Ao125 t323.length co125)) (fun _ hk => hk.2) (.slice Ao126 t326.length co126)) (fun _ h_ => h_.1))) hb);have n6_:=Aside0.mk (blk_below (g:=gb303) (o:=.cells #[.string a1_0,.int .i64 a1_1,.slice A1_2 l1_2.length c1_2,.slice A1_3 l1_3.length c1_3] 39 (0,0)) (by (with_reducible repeat (first | refine blk_drewN ?_ _ | refine blk_drew ?_ | refine blk_alloc ?_ _));refine blk_far ?_ NB303_329.out _;(with_reducible repeat (first | refine blk_drewN ?_ _ | refine blk_drew ?_ | refine blk_alloc ?_ _));refine blk_far ?_ NB303_329.out _;(with_reducible repeat (first | refine blk_drewN ?_ _ | refine blk_drew ?_ | refine blk_alloc ?_ _));refine blk_far ?_ NB303_329.out _;(with_reducible repeat (first | refine blk_drewN ?_ _ | refine blk_drew ?_ | refine blk_alloc ?_ _));refine blk_far ?_ NB303_329.out _;(with_reducible repeat (first | refine blk_drewN ?_ _ | refine blk_drew ?_ | refine blk_alloc ?_ _));exact BK303.out) hb);have n7_:=Aside0.mk (blk_below (g:=gb329) (o:=.cells #[.string t321,.int .i64 t322,.slice Ao125 t323.length co125,.slice Ao126 t326.length co126] 27 (0,0)) (by (with_reducible repeat (first | refine blk_drewN ?_ _ | refine blk_drew ?_ | refine blk_alloc ?_ _));refine blk_put (cs:=#[.string t321,.int .i64 t322,.slice Ao125 t323.length co125,.slice none 0 0]) ?_ 3 _ rfl;(with_reducible repeat (first | refine blk_drewN ?_ _ | refine blk_drew ?_ | refine blk_alloc ?_ _));refine blk_put (cs:=#[.string t321,.int .i64 t322,.slice none 0 0,.slice none 0 0]) ?_ 2 _ rfl;(with_reducible repeat (first | refine blk_drewN ?_ _ | refine blk_drew ?_ | refine blk_alloc ?_ _));refine blk_put (cs:=#[.string t321,.int .i64 0,.slice none 0 0,.slice none 0 0]) ?_ 1 _ rfl;(with_reducible repeat (first | refine blk_drewN ?_ _ | refine blk_drew ?_ | refine blk_alloc ?_ _));refine blk_put (cs:=#[.string (⟨#[]⟩ : ByteArray),.int .i64 0,.slice none 0 0,.slice none 0 0]) ?_ 0 _ rfl;(with_reducible repeat (first | refine blk_drewN ?_ _ | refine blk_drew ?_ | refine blk_alloc ?_ _));exact BK329.out) hb);have n8_:=Aside0.mk (below_step (by repeat (first | (with_reducible first | exact HB.out | apply below_alloc | apply pw_below_drewN | apply below_drew1 | refine below_set ?_ GE303.out | refine below_set ?_ GE329.out) | exact HB.out)) hb);clear HO308;clear HO313;clear HO316;clear HO320;clear HO325;clear HO328;clear BK303;clear BK329;clear HB;have HO308:=n0_;have HO313:=n1_;have HO316:=n2_;have HO320:=n3_;have HO325:=n4_;have HO328:=n5_;have BK303:=n6_;have BK329:=n7_;have HB:=n8_;clear n0_ n1_ n2_ n3_ n4_ n5_ n6_ n7_ n8_;(try clear hb);(try clear hb2);(try clear hk);(try clear hi)))
    go_ret
    exact ⟨by first | rfl | (simp [errW_none,errW_some] <;> rfl) | (simp [*,errW_none,errW_some] <;> rfl),by repeat (first | (with_reducible first | exact HB.out | apply below_alloc | apply pw_below_drewN | apply below_drew1 | refine below_set ?_ GE303.out | refine below_set ?_ GE329.out) | exact HB.out)⟩

end Go.Proofs.Ytdgmlakgnbmbbaa.OFnExactValueSize
