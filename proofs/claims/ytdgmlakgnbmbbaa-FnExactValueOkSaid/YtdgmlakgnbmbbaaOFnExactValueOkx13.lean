-- Laid by a program of this session (wip/myprint.py): the kit's print of the functions, contracts of our own among them.
import Derived.Test.YtdgmlakgnbmbbaaOFnExactValueOkx0
import Derived.Test.YtdgmlakgnbmbbaaOFnExactValueOkx4
import Derived.Test.YtdgmlakgnbmbbaaOFnExactValueOkx9
import Derived.Test.YtdgmlakgnbmbbaaOFnExactValueOkx11
import Derived.Test.YtdgmlakgnbmbbaaOFnExactValueOkx12
namespace Go.Proofs.Ytdgmlakgnbmbbaa.OFnExactValueOk
open Go.RowKit Go.Proofs.YtdgmlakgnbmbbaaW.PrintWords Go.Proofs.YtdgmlakgnbmbbaaW.PrintLast Go.Proofs.YtdgmlakgnbmbbaaW.PrintMore
attribute [local go_sem] max2_int min2_int max_two min_two max_three min_three max_four min_four   -- for this text's walks alone
set_option linter.unusedVariables false
set_option linter.unusedSimpArgs false

/-! ### laws_FnExactValueOk: function 5 -/
def laws_FnExactValueOk.f (k : Nat) (l0 : List (List (S124))) (a1_0 : ByteArray) (a1_1 : Int) (l1_2 : List (S39)) (l1_3 : List Int) : Option (Bool):=(laws_szRecordSS.f k l0 1048576).bind fun t291 => (if t291 < 0 then (some true) else ((laws_szValue.f k a1_0 a1_1 l1_2 l1_3 t291).bind fun t292 => (if t292 < 0 then (some true) else ((laws_toRecordSS.f k l0).bind fun t293 => ((laws_toValue.f k a1_0 a1_1 l1_2 l1_3).bind fun bt296 => ((spec_ValueOk.f k t293 bt296.1 bt296.2.1 bt296.2.2.1 bt296.2.2.2).bind fun t304 => ((laws_toRecordSS.f k l0).bind fun t305 => ((laws_toValue.f k a1_0 a1_1 l1_2 l1_3).bind fun bt308 => ((impl_ValueOk.f k t305 bt308.1 bt308.2.1 bt308.2.2.1 bt308.2.2.2).bind fun t317 => (if (t317 != t304) = true then (some false) else ((laws_toRecordSS.f k l0).bind fun t318 => ((laws_eqRecordSS.f k t305 t318).bind fun t321 => (if t321 = true then ((laws_toValue.f k a1_0 a1_1 l1_2 l1_3).bind fun bt322 => ((laws_eqValue.f k bt308.1 bt308.2.1 bt308.2.2.1 bt308.2.2.2 bt322.1 bt322.2.1 bt322.2.2.1 bt322.2.2.2).bind fun t330 => (if t330 = true then (some true) else (some false)))) else (some false))))))))))))))
theorem laws_FnExactValueOk.mono : ∀ a0 a1 a2 a3 a4 k,LeO (laws_FnExactValueOk.f k a0 a1 a2 a3 a4) (laws_FnExactValueOk.f (k + 1) a0 a1 a2 a3 a4):=by
 intro a0 a1 a2 a3 a4 k
 unfold laws_FnExactValueOk.f
 repeat' first
   | (with_reducible exact impl_ValueOk.mono _ _ _ _ _ _)
   | (with_reducible exact laws_eqRecordSS.mono _ _ _)
   | (with_reducible exact laws_eqValue.mono _ _ _ _ _ _ _ _ _)
   | (with_reducible exact laws_szRecordSS.mono _ _ _)
   | (with_reducible exact laws_szValue.mono _ _ _ _ _ _)
   | (with_reducible exact laws_toRecordSS.mono _ _)
   | (with_reducible exact laws_toValue.mono _ _ _ _ _)
   | (with_reducible exact spec_ValueOk.mono _ _ _ _ _ _)
   | (with_reducible exact LeO.refl _)
   | (with_reducible exact LeO.none _)
   | (with_reducible refine LeO.ite ?_ ?_)
   | (with_reducible refine LeO.bind ?_ (fun _ => ?_))
   | exact impl_ValueOk.mono _ _ _ _ _ _
   | exact laws_eqRecordSS.mono _ _ _
   | exact laws_eqValue.mono _ _ _ _ _ _ _ _ _
   | exact laws_szRecordSS.mono _ _ _
   | exact laws_szValue.mono _ _ _ _ _ _
   | exact laws_toRecordSS.mono _ _
   | exact laws_toValue.mono _ _ _ _ _
   | exact spec_ValueOk.mono _ _ _ _ _ _
   | exact LeO.none _
   | refine LeO.ite ?_ ?_
   | refine LeO.bind ?_ (fun _ => ?_)
set_option maxHeartbeats 8000000 in
set_option maxRecDepth 100000 in
theorem laws_FnExactValueOk.calls (k : Nat) (A0 : Option Addr) (c0 : Nat) (l0 : List (List (S124))) (a1_0 : ByteArray) (a1_1 : Int) (A1_2 : Option Addr) (c1_2 : Nat) (l1_2 : List (S39)) (A1_3 : Option Addr) (c1_3 : Nat) (l1_3 : List Int) (r : Bool) (w : World) (hr0 : Kd.C (Kd.slice 124 k124) w A0 l0.length l0) (hc0 : l0.length ≤ c0) (hr1_2 : Kd.C k39 w A1_2 l1_2.length l1_2) (hc1_2 : l1_2.length ≤ c1_2) (hr1_3 : Kd.C (Kd.int .i64) w A1_3 l1_3.length l1_3) (hc1_3 : l1_3.length ≤ c1_3) (h : laws_FnExactValueOk.f k l0 a1_0 a1_1 l1_2 l1_3 = some r) :
  Calls Try.prog 5 #[.slice A0 l0.length c0,.agg #[.string a1_0,.int .i64 a1_1,.slice A1_2 l1_2.length c1_2,.slice A1_3 l1_3.length c1_3]] w fun e w' => e = .returned (.bool r) ∧ Below w.heap.size w w':=by
 have hu39:=Try.underlying39
 have hu27:=Try.underlying27
 have HR0:=Aside0.mk hr0
 have HC0:=Aside0.mk hc0
 clear hr0 hc0
 have HR1_2:=Aside0.mk hr1_2
 have HC1_2:=Aside0.mk hc1_2
 clear hr1_2 hc1_2
 have HR1_3:=Aside0.mk hr1_3
 have HC1_3:=Aside0.mk hc1_3
 clear hr1_3 hc1_3
 have HB:=Aside0.mk (Below.refl w.heap.size w)
 have H : ((laws_szRecordSS.f k l0 1048576).bind fun t291 => (if t291 < 0 then (some true) else ((laws_szValue.f k a1_0 a1_1 l1_2 l1_3 t291).bind fun t292 => (if t292 < 0 then (some true) else ((laws_toRecordSS.f k l0).bind fun t293 => ((laws_toValue.f k a1_0 a1_1 l1_2 l1_3).bind fun bt296 => ((spec_ValueOk.f k t293 bt296.1 bt296.2.1 bt296.2.2.1 bt296.2.2.2).bind fun t304 => ((laws_toRecordSS.f k l0).bind fun t305 => ((laws_toValue.f k a1_0 a1_1 l1_2 l1_3).bind fun bt308 => ((impl_ValueOk.f k t305 bt308.1 bt308.2.1 bt308.2.2.1 bt308.2.2.2).bind fun t317 => (if (t317 != t304) = true then (some false) else ((laws_toRecordSS.f k l0).bind fun t318 => ((laws_eqRecordSS.f k t305 t318).bind fun t321 => (if t321 = true then ((laws_toValue.f k a1_0 a1_1 l1_2 l1_3).bind fun bt322 => ((laws_eqValue.f k bt308.1 bt308.2.1 bt308.2.2.1 bt308.2.2.2 bt322.1 bt322.2.1 bt322.2.2.1 bt322.2.2.2).bind fun t330 => (if t330 = true then (some true) else (some false)))) else (some false))))))))))))))) = some r:=h
 clear h
 replace H:=Option.bind_eq_some_iff.mp H
 obtain ⟨t291,A30,H⟩:=H
 replace H : (if t291 < 0 then (some true) else ((laws_szValue.f k a1_0 a1_1 l1_2 l1_3 t291).bind fun t292 => (if t292 < 0 then (some true) else ((laws_toRecordSS.f k l0).bind fun t293 => ((laws_toValue.f k a1_0 a1_1 l1_2 l1_3).bind fun bt296 => ((spec_ValueOk.f k t293 bt296.1 bt296.2.1 bt296.2.2.1 bt296.2.2.2).bind fun t304 => ((laws_toRecordSS.f k l0).bind fun t305 => ((laws_toValue.f k a1_0 a1_1 l1_2 l1_3).bind fun bt308 => ((impl_ValueOk.f k t305 bt308.1 bt308.2.1 bt308.2.2.1 bt308.2.2.2).bind fun t317 => (if (t317 != t304) = true then (some false) else ((laws_toRecordSS.f k l0).bind fun t318 => ((laws_eqRecordSS.f k t305 t318).bind fun t321 => (if t321 = true then ((laws_toValue.f k a1_0 a1_1 l1_2 l1_3).bind fun bt322 => ((laws_eqValue.f k bt308.1 bt308.2.1 bt308.2.2.1 bt308.2.2.2 bt322.1 bt322.2.1 bt322.2.2.1 bt322.2.2.2).bind fun t330 => (if t330 = true then (some true) else (some false)))) else (some false)))))))))))))) = some r:=H
 have A3:=Aside0.mk A30
 clear A30
 by_cases c4 : t291 < 0
 ·rw [if_pos c4] at H
  have c4b0 : decide (t291 < 0) = true:=decide_eq_true c4
  clear c4
  obtain rfl:=Option.some.inj H
  go_enter Try.func5,Try.ntmps5
  go_wp2_with (first | ((with_reducible refine gate_dst (N:=3) rfl ?_);refine box_event ?hg (N:=3) ?hd (cs:=#[.string a1_0,.int .i64 a1_1,.slice A1_2 l1_2.length c1_2,.slice A1_3 l1_3.length c1_3]) (t:=39) ?hr ?_;(case hd => rfl);(case hg => rfl);(case hr => first | (go_simp;done) | (go_simp;rfl));intro gb290 hg w5 hbox hb;have n0_:=Up.BB HB hb;have n1_:=Aside0.mk (hbox);have n2_:=Aside0.mk ((by rw [hg];exact (below_size (Up.Bup HB)) : w.heap.size ≤ gb290));have n3_:=Aside0.mk ((by rw [hg];exact (below_size (Up.Bup HB)) : w.heap.size ≤ gb290));clear HB;have HB:=n0_;have BK290:=n1_;have GW290:=n2_;have GE290:=n3_;clear n0_ n1_ n2_ n3_;clear hb hbox hg) | ((with_reducible refine gate_callee (f:=18) rfl ?_);refine goesL_ (some 12) rfl rfl Try.func18 (by kernel_rfl) rfl #[.slice A0 l0.length c0,.int .i64 1048576] rfl (by (try simp only [List.map_toArray,List.map_cons,List.map_nil]);first | done | rfl | (simp only [List.length_drop,List.length_take];rfl)) ?_;(with_reducible refine (laws_szRecordSS.calls k _ _ l0 1048576 t291 _ ?side1 ?side2 A3.out).mono ?_);(case side1 => repeat (first | exact (Kd.C_below HR0.out HB.out) | (with_reducible refine Kd.C_alloc ?_ _) | (with_reducible refine Kd.C_drewN ?_ _) | (with_reducible refine Kd.C_drew ?_)));(case side2 => exact HC0.out);rintro e w6 ⟨rfl,hb⟩;refine ⟨_,rfl,?_⟩;have n0_:=Up.KB BK290 hb;have n1_:=Aside0.mk (below_step (by repeat (first | (with_reducible first | exact HB.out | apply below_alloc | apply pw_below_drewN | apply below_drew1 | refine below_set ?_ GE290.out) | exact HB.out)) hb);clear BK290;clear HB;have BK290:=n0_;have HB:=n1_;clear n0_ n1_;(try clear hb);(try clear hb2);(try clear hk);(try clear hi)))
  go_ret
  exact ⟨by first | rfl | (simp [errW_none,errW_some] <;> rfl) | (simp [*,errW_none,errW_some] <;> rfl),by repeat (first | (with_reducible first | exact HB.out | apply below_alloc | apply pw_below_drewN | apply below_drew1 | refine below_set ?_ GE290.out) | exact HB.out)⟩
 ·rw [if_neg c4] at H
  have c4b0 : decide (t291 < 0) = false:=decide_eq_false c4
  clear c4
  replace H:=Option.bind_eq_some_iff.mp H
  obtain ⟨t292,A70,H⟩:=H
  replace H : (if t292 < 0 then (some true) else ((laws_toRecordSS.f k l0).bind fun t293 => ((laws_toValue.f k a1_0 a1_1 l1_2 l1_3).bind fun bt296 => ((spec_ValueOk.f k t293 bt296.1 bt296.2.1 bt296.2.2.1 bt296.2.2.2).bind fun t304 => ((laws_toRecordSS.f k l0).bind fun t305 => ((laws_toValue.f k a1_0 a1_1 l1_2 l1_3).bind fun bt308 => ((impl_ValueOk.f k t305 bt308.1 bt308.2.1 bt308.2.2.1 bt308.2.2.2).bind fun t317 => (if (t317 != t304) = true then (some false) else ((laws_toRecordSS.f k l0).bind fun t318 => ((laws_eqRecordSS.f k t305 t318).bind fun t321 => (if t321 = true then ((laws_toValue.f k a1_0 a1_1 l1_2 l1_3).bind fun bt322 => ((laws_eqValue.f k bt308.1 bt308.2.1 bt308.2.2.1 bt308.2.2.2 bt322.1 bt322.2.1 bt322.2.2.1 bt322.2.2.2).bind fun t330 => (if t330 = true then (some true) else (some false)))) else (some false)))))))))))) = some r:=H
  have A7:=Aside0.mk A70
  clear A70
  by_cases c8 : t292 < 0
  ·rw [if_pos c8] at H
   have c8b0 : decide (t292 < 0) = true:=decide_eq_true c8
   clear c8
   obtain rfl:=Option.some.inj H
   go_enter Try.func5,Try.ntmps5
   go_wp2_with (first | ((with_reducible refine gate_dst (N:=3) rfl ?_);refine box_event ?hg (N:=3) ?hd (cs:=#[.string a1_0,.int .i64 a1_1,.slice A1_2 l1_2.length c1_2,.slice A1_3 l1_3.length c1_3]) (t:=39) ?hr ?_;(case hd => rfl);(case hg => rfl);(case hr => first | (go_simp;done) | (go_simp;rfl));intro gb290 hg w9 hbox hb;have n0_:=Up.BB HB hb;have n1_:=Aside0.mk (hbox);have n2_:=Aside0.mk ((by rw [hg];exact (below_size (Up.Bup HB)) : w.heap.size ≤ gb290));have n3_:=Aside0.mk ((by rw [hg];exact (below_size (Up.Bup HB)) : w.heap.size ≤ gb290));clear HB;have HB:=n0_;have BK290:=n1_;have GW290:=n2_;have GE290:=n3_;clear n0_ n1_ n2_ n3_;clear hb hbox hg) | ((with_reducible refine gate_callee (f:=18) rfl ?_);refine goesL_ (some 12) rfl rfl Try.func18 (by kernel_rfl) rfl #[.slice A0 l0.length c0,.int .i64 1048576] rfl (by (try simp only [List.map_toArray,List.map_cons,List.map_nil]);first | done | rfl | (simp only [List.length_drop,List.length_take];rfl)) ?_;(with_reducible refine (laws_szRecordSS.calls k _ _ l0 1048576 t291 _ ?side1 ?side2 A3.out).mono ?_);(case side1 => repeat (first | exact (Kd.C_below HR0.out HB.out) | (with_reducible refine Kd.C_alloc ?_ _) | (with_reducible refine Kd.C_drewN ?_ _) | (with_reducible refine Kd.C_drew ?_)));(case side2 => exact HC0.out);rintro e w10 ⟨rfl,hb⟩;refine ⟨_,rfl,?_⟩;have n0_:=Up.KB BK290 hb;have n1_:=Aside0.mk (below_step (by repeat (first | (with_reducible first | exact HB.out | apply below_alloc | apply pw_below_drewN | apply below_drew1 | refine below_set ?_ GE290.out) | exact HB.out)) hb);clear BK290;clear HB;have BK290:=n0_;have HB:=n1_;clear n0_ n1_;(try clear hb);(try clear hb2);(try clear hk);(try clear hi);have hcz11_0 : w10.cell? ⟨gb290,0,none⟩ = some (.string a1_0):=(blk_cell BK290.out 0).trans rfl;have hcz11_1 : w10.cell? ⟨gb290,1,none⟩ = some (.int .i64 a1_1):=(blk_cell BK290.out 1).trans rfl;have hcz11_2 : w10.cell? ⟨gb290,2,none⟩ = some (.slice A1_2 l1_2.length c1_2):=(blk_cell BK290.out 2).trans rfl;have hcz11_3 : w10.cell? ⟨gb290,3,none⟩ = some (.slice A1_3 l1_3.length c1_3):=(blk_cell BK290.out 3).trans rfl;have hfz11_0:=blk_frozen BK290.out 0;have hfz11_1:=blk_frozen BK290.out 1;have hfz11_2:=blk_frozen BK290.out 2;have hfz11_3:=blk_frozen BK290.out 3) | ((with_reducible refine gate_callee (f:=19) rfl ?_);refine goesL_ (some 17) rfl rfl Try.func19 (by kernel_rfl) rfl #[.agg #[.string a1_0,.int .i64 a1_1,.slice A1_2 l1_2.length c1_2,.slice A1_3 l1_3.length c1_3],.int .i64 t291] rfl (by (try simp only [List.map_toArray,List.map_cons,List.map_nil]);first | done | rfl | (simp only [List.length_drop,List.length_take];rfl)) ?_;(with_reducible refine (laws_szValue.calls k a1_0 a1_1 _ _ l1_2 _ _ l1_3 t291 t292 _ ?side1 ?side2 ?side3 ?side4 A7.out).mono ?_);(case side1 => repeat (first | exact (Kd.C_below HR1_2.out HB.out) | (with_reducible refine Kd.C_alloc ?_ _) | (with_reducible refine Kd.C_drewN ?_ _) | (with_reducible refine Kd.C_drew ?_)));(case side2 => exact HC1_2.out);(case side3 => repeat (first | exact (Kd.C_below HR1_3.out HB.out) | (with_reducible refine Kd.C_alloc ?_ _) | (with_reducible refine Kd.C_drewN ?_ _) | (with_reducible refine Kd.C_drew ?_)));(case side4 => exact HC1_3.out);rintro e w12 ⟨rfl,hb⟩;refine ⟨_,rfl,?_⟩;have n0_:=Up.KB BK290 hb;have n1_:=Aside0.mk (below_step (by repeat (first | (with_reducible first | exact HB.out | apply below_alloc | apply pw_below_drewN | apply below_drew1 | refine below_set ?_ GE290.out) | exact HB.out)) hb);clear BK290;clear HB;have BK290:=n0_;have HB:=n1_;clear n0_ n1_;(try clear hb);(try clear hb2);(try clear hk);(try clear hi)))
   go_ret
   exact ⟨by first | rfl | (simp [errW_none,errW_some] <;> rfl) | (simp [*,errW_none,errW_some] <;> rfl),by repeat (first | (with_reducible first | exact HB.out | apply below_alloc | apply pw_below_drewN | apply below_drew1 | refine below_set ?_ GE290.out) | exact HB.out)⟩
  ·rw [if_neg c8] at H
   have c8b0 : decide (t292 < 0) = false:=decide_eq_false c8
   clear c8
   replace H:=Option.bind_eq_some_iff.mp H
   obtain ⟨t293,A130,H⟩:=H
   replace H : ((laws_toValue.f k a1_0 a1_1 l1_2 l1_3).bind fun bt296 => ((spec_ValueOk.f k t293 bt296.1 bt296.2.1 bt296.2.2.1 bt296.2.2.2).bind fun t304 => ((laws_toRecordSS.f k l0).bind fun t305 => ((laws_toValue.f k a1_0 a1_1 l1_2 l1_3).bind fun bt308 => ((impl_ValueOk.f k t305 bt308.1 bt308.2.1 bt308.2.2.1 bt308.2.2.2).bind fun t317 => (if (t317 != t304) = true then (some false) else ((laws_toRecordSS.f k l0).bind fun t318 => ((laws_eqRecordSS.f k t305 t318).bind fun t321 => (if t321 = true then ((laws_toValue.f k a1_0 a1_1 l1_2 l1_3).bind fun bt322 => ((laws_eqValue.f k bt308.1 bt308.2.1 bt308.2.2.1 bt308.2.2.2 bt322.1 bt322.2.1 bt322.2.2.1 bt322.2.2.2).bind fun t330 => (if t330 = true then (some true) else (some false)))) else (some false)))))))))) = some r:=H
   have A13:=Aside0.mk A130
   clear A130
   replace H:=Option.bind_eq_some_iff.mp H
   obtain ⟨⟨t296,t297,t298,t301⟩,A140,H⟩:=H
   replace H : ((spec_ValueOk.f k t293 t296 t297 t298 t301).bind fun t304 => ((laws_toRecordSS.f k l0).bind fun t305 => ((laws_toValue.f k a1_0 a1_1 l1_2 l1_3).bind fun bt308 => ((impl_ValueOk.f k t305 bt308.1 bt308.2.1 bt308.2.2.1 bt308.2.2.2).bind fun t317 => (if (t317 != t304) = true then (some false) else ((laws_toRecordSS.f k l0).bind fun t318 => ((laws_eqRecordSS.f k t305 t318).bind fun t321 => (if t321 = true then ((laws_toValue.f k a1_0 a1_1 l1_2 l1_3).bind fun bt322 => ((laws_eqValue.f k bt308.1 bt308.2.1 bt308.2.2.1 bt308.2.2.2 bt322.1 bt322.2.1 bt322.2.2.1 bt322.2.2.2).bind fun t330 => (if t330 = true then (some true) else (some false)))) else (some false))))))))) = some r:=H
   have A14:=Aside0.mk A140
   clear A140
   replace H:=Option.bind_eq_some_iff.mp H
   obtain ⟨t304,A150,H⟩:=H
   replace H : ((laws_toRecordSS.f k l0).bind fun t305 => ((laws_toValue.f k a1_0 a1_1 l1_2 l1_3).bind fun bt308 => ((impl_ValueOk.f k t305 bt308.1 bt308.2.1 bt308.2.2.1 bt308.2.2.2).bind fun t317 => (if (t317 != t304) = true then (some false) else ((laws_toRecordSS.f k l0).bind fun t318 => ((laws_eqRecordSS.f k t305 t318).bind fun t321 => (if t321 = true then ((laws_toValue.f k a1_0 a1_1 l1_2 l1_3).bind fun bt322 => ((laws_eqValue.f k bt308.1 bt308.2.1 bt308.2.2.1 bt308.2.2.2 bt322.1 bt322.2.1 bt322.2.2.1 bt322.2.2.2).bind fun t330 => (if t330 = true then (some true) else (some false)))) else (some false)))))))) = some r:=H
   have A15:=Aside0.mk A150
   clear A150
   replace H:=Option.bind_eq_some_iff.mp H
   obtain ⟨t305,A160,H⟩:=H
   replace H : ((laws_toValue.f k a1_0 a1_1 l1_2 l1_3).bind fun bt308 => ((impl_ValueOk.f k t305 bt308.1 bt308.2.1 bt308.2.2.1 bt308.2.2.2).bind fun t317 => (if (t317 != t304) = true then (some false) else ((laws_toRecordSS.f k l0).bind fun t318 => ((laws_eqRecordSS.f k t305 t318).bind fun t321 => (if t321 = true then ((laws_toValue.f k a1_0 a1_1 l1_2 l1_3).bind fun bt322 => ((laws_eqValue.f k bt308.1 bt308.2.1 bt308.2.2.1 bt308.2.2.2 bt322.1 bt322.2.1 bt322.2.2.1 bt322.2.2.2).bind fun t330 => (if t330 = true then (some true) else (some false)))) else (some false))))))) = some r:=H
   have A16:=Aside0.mk A160
   clear A160
   replace H:=Option.bind_eq_some_iff.mp H
   obtain ⟨⟨t308,t309,t310,t313⟩,A170,H⟩:=H
   replace H : ((impl_ValueOk.f k t305 t308 t309 t310 t313).bind fun t317 => (if (t317 != t304) = true then (some false) else ((laws_toRecordSS.f k l0).bind fun t318 => ((laws_eqRecordSS.f k t305 t318).bind fun t321 => (if t321 = true then ((laws_toValue.f k a1_0 a1_1 l1_2 l1_3).bind fun bt322 => ((laws_eqValue.f k t308 t309 t310 t313 bt322.1 bt322.2.1 bt322.2.2.1 bt322.2.2.2).bind fun t330 => (if t330 = true then (some true) else (some false)))) else (some false)))))) = some r:=H
   have A17:=Aside0.mk A170
   clear A170
   replace H:=Option.bind_eq_some_iff.mp H
   obtain ⟨t317,A180,H⟩:=H
   replace H : (if (t317 != t304) = true then (some false) else ((laws_toRecordSS.f k l0).bind fun t318 => ((laws_eqRecordSS.f k t305 t318).bind fun t321 => (if t321 = true then ((laws_toValue.f k a1_0 a1_1 l1_2 l1_3).bind fun bt322 => ((laws_eqValue.f k t308 t309 t310 t313 bt322.1 bt322.2.1 bt322.2.2.1 bt322.2.2.2).bind fun t330 => (if t330 = true then (some true) else (some false)))) else (some false))))) = some r:=H
   have A18:=Aside0.mk A180
   clear A180
   by_cases c19 : (t317 != t304) = true
   ·rw [if_pos c19] at H
    have c19b0 : (t317 != t304) = true:=c19
    (try (have c19b1 : decide (t317 = t304) = false:=by simpa using c19))
    (try (have c19b2 : (t317 == t304) = false:=by simpa using c19))
    (try (have c19b3 : ¬ (t317 = t304):=by simpa using c19))
    clear c19
    obtain rfl:=Option.some.inj H
    go_enter Try.func5,Try.ntmps5
    try go_wp2_with (first | ((with_reducible refine gate_dst (N:=3) rfl ?_);refine box_event ?hg (N:=3) ?hd (cs:=#[.string a1_0,.int .i64 a1_1,.slice A1_2 l1_2.length c1_2,.slice A1_3 l1_3.length c1_3]) (t:=39) ?hr ?_;(case hd => rfl);(case hg => rfl);(case hr => first | (go_simp;done) | (go_simp;rfl));intro gb290 hg w20 hbox hb;have n0_:=Up.BB HB hb;have n1_:=Aside0.mk (hbox);have n2_:=Aside0.mk ((by rw [hg];exact (below_size (Up.Bup HB)) : w.heap.size ≤ gb290));have n3_:=Aside0.mk ((by rw [hg];exact (below_size (Up.Bup HB)) : w.heap.size ≤ gb290));clear HB;have HB:=n0_;have BK290:=n1_;have GW290:=n2_;have GE290:=n3_;clear n0_ n1_ n2_ n3_;clear hb hbox hg) | ((with_reducible refine gate_callee (f:=18) rfl ?_);refine goesL_ (some 12) rfl rfl Try.func18 (by kernel_rfl) rfl #[.slice A0 l0.length c0,.int .i64 1048576] rfl (by (try simp only [List.map_toArray,List.map_cons,List.map_nil]);first | done | rfl | (simp only [List.length_drop,List.length_take];rfl)) ?_;(with_reducible refine (laws_szRecordSS.calls k _ _ l0 1048576 t291 _ ?side1 ?side2 A3.out).mono ?_);(case side1 => repeat (first | exact (Kd.C_below HR0.out HB.out) | (with_reducible refine Kd.C_alloc ?_ _) | (with_reducible refine Kd.C_drewN ?_ _) | (with_reducible refine Kd.C_drew ?_)));(case side2 => exact HC0.out);rintro e w21 ⟨rfl,hb⟩;refine ⟨_,rfl,?_⟩;have n0_:=Up.KB BK290 hb;have n1_:=Aside0.mk (below_step (by repeat (first | (with_reducible first | exact HB.out | apply below_alloc | apply pw_below_drewN | apply below_drew1 | refine below_set ?_ GE290.out) | exact HB.out)) hb);clear BK290;clear HB;have BK290:=n0_;have HB:=n1_;clear n0_ n1_;(try clear hb);(try clear hb2);(try clear hk);(try clear hi);have hcz22_0 : w21.cell? ⟨gb290,0,none⟩ = some (.string a1_0):=(blk_cell BK290.out 0).trans rfl;have hcz22_1 : w21.cell? ⟨gb290,1,none⟩ = some (.int .i64 a1_1):=(blk_cell BK290.out 1).trans rfl;have hcz22_2 : w21.cell? ⟨gb290,2,none⟩ = some (.slice A1_2 l1_2.length c1_2):=(blk_cell BK290.out 2).trans rfl;have hcz22_3 : w21.cell? ⟨gb290,3,none⟩ = some (.slice A1_3 l1_3.length c1_3):=(blk_cell BK290.out 3).trans rfl;have hfz22_0:=blk_frozen BK290.out 0;have hfz22_1:=blk_frozen BK290.out 1;have hfz22_2:=blk_frozen BK290.out 2;have hfz22_3:=blk_frozen BK290.out 3) | ((with_reducible refine gate_callee (f:=19) rfl ?_);refine goesL_ (some 17) rfl rfl Try.func19 (by kernel_rfl) rfl #[.agg #[.string a1_0,.int .i64 a1_1,.slice A1_2 l1_2.length c1_2,.slice A1_3 l1_3.length c1_3],.int .i64 t291] rfl (by (try simp only [List.map_toArray,List.map_cons,List.map_nil]);first | done | rfl | (simp only [List.length_drop,List.length_take];rfl)) ?_;(with_reducible refine (laws_szValue.calls k a1_0 a1_1 _ _ l1_2 _ _ l1_3 t291 t292 _ ?side1 ?side2 ?side3 ?side4 A7.out).mono ?_);(case side1 => repeat (first | exact (Kd.C_below HR1_2.out HB.out) | (with_reducible refine Kd.C_alloc ?_ _) | (with_reducible refine Kd.C_drewN ?_ _) | (with_reducible refine Kd.C_drew ?_)));(case side2 => exact HC1_2.out);(case side3 => repeat (first | exact (Kd.C_below HR1_3.out HB.out) | (with_reducible refine Kd.C_alloc ?_ _) | (with_reducible refine Kd.C_drewN ?_ _) | (with_reducible refine Kd.C_drew ?_)));(case side4 => exact HC1_3.out);rintro e w23 ⟨rfl,hb⟩;refine ⟨_,rfl,?_⟩;have n0_:=Up.KB BK290 hb;have n1_:=Aside0.mk (below_step (by repeat (first | (with_reducible first | exact HB.out | apply below_alloc | apply pw_below_drewN | apply below_drew1 | refine below_set ?_ GE290.out) | exact HB.out)) hb);clear BK290;clear HB;have BK290:=n0_;have HB:=n1_;clear n0_ n1_;(try clear hb);(try clear hb2);(try clear hk);(try clear hi)))
    have n0_:=Aside0.mk (blk_drew BK290.out)
    have n1_:=Aside0.mk (below_drew1 HB.out)
    clear BK290
    clear HB
    have BK290:=n0_
    have HB:=n1_
    clear n0_ n1_
    refine start_ (n:=6) (S:=fun w' => w'.cell? ⟨gb290,0,none⟩ = some (.string a1_0) ∧ w'.cell? ⟨gb290,1,none⟩ = some (.int .i64 a1_1) ∧ w'.cell? ⟨gb290,2,none⟩ = some (.slice A1_2 l1_2.length c1_2) ∧ w'.cell? ⟨gb290,3,none⟩ = some (.slice A1_3 l1_3.length c1_3)) (ds:=[]) #[false,false,false,false,false,false] (by kernel_rfl) rfl rfl ⟨(blk_cell BK290.out 0).trans rfl,(blk_cell BK290.out 1).trans rfl,(blk_cell BK290.out 2).trans rfl,(blk_cell BK290.out 3).trans rfl⟩ (fun hHeld => ?_)
    generalize w23.drew = w24 at BK290 HB hHeld ⊢
    refine pure_ (i:=0) (N:=some 20) (v:=?_) (a':=?_) #[true,false,false,false,false,false] rfl rfl (by kernel_rfl) (fun _ _ _ h => h) (Or.inl ⟨by rfl,?_⟩) ?_ ?_
    rotate_left
    ·intro w'
     go_simp
     with_reducible rfl
    rotate_left
    ·simp only [Act.put,List.setIfInBounds_toArray,List.set_cons_zero,List.set_cons_succ,i64_w,i32_w]
     rfl
    refine take_ (i:=2) (N:=some 22) (v:=?_) (a':=?_) #[true,false,true,false,false,false] rfl rfl (by kernel_rfl) (fun _ _ _ h => h) (Or.inl ⟨by rfl,?_⟩) hHeld ?_ ?_
    rotate_left
    ·rintro w' ⟨s0,s1,s2,s3⟩
     go_simp
     with_reducible rfl
    rotate_left
    ·simp only [Act.put,List.setIfInBounds_toArray,List.set_cons_zero,List.set_cons_succ,i64_w,i32_w]
     rfl
    refine one_ (i:=1) (N:=some 21) #[true,true,true,false,false,false] rfl rfl (by kernel_rfl) (by decide) (fun K hK => ?_)
    refine goes_ Try.func21 (by kernel_rfl) rfl #[.slice A0 l0.length c0] (by rfl) rfl rfl (by (try simp only [List.map_toArray,List.map_cons,List.map_nil]);first | done | rfl | (simp only [List.length_drop,List.length_take];rfl)) ?_
    with_reducible refine (laws_toRecordSS.calls k _ _ l0 t293 _ ?side1 ?side2 A13.out).mono ?_
    (case side1 => repeat (first | exact (Kd.C_below HR0.out HB.out) | (with_reducible refine Kd.C_alloc ?_ _) | (with_reducible refine Kd.C_drewN ?_ _) | (with_reducible refine Kd.C_drew ?_)))
    (case side2 => exact HC0.out)
    rintro e w25 ⟨v294,rfl,ho0,hb⟩
    refine ⟨_,rfl,?_⟩
    have n0_:=Aside0.mk (Kd.R_lower ho0 (below_size (by repeat (first | (with_reducible first | exact HB.out | apply below_alloc | apply pw_below_drewN | apply below_drew1 | refine below_set ?_ GE290.out) | exact HB.out))))
    have n1_:=Up.KB BK290 hb
    have n2_:=Aside0.mk (below_step (by repeat (first | (with_reducible first | exact HB.out | apply below_alloc | apply pw_below_drewN | apply below_drew1 | refine below_set ?_ GE290.out) | exact HB.out)) hb)
    clear BK290
    clear HB
    have HO295:=n0_
    have BK290:=n1_
    have HB:=n2_
    clear n0_ n1_ n2_
    (try clear hb)
    (try clear hb2)
    (try clear hk)
    (try clear hi)
    (try clear ho0)
    refine hK.out _ _ ⟨(blk_cell BK290.out 0).trans rfl,(blk_cell BK290.out 1).trans rfl,(blk_cell BK290.out 2).trans rfl,(blk_cell BK290.out 3).trans rfl⟩ (fun hHeld => ?_)
    clear hK K
    refine norm_ (a':=?_) ?_ ?_
    rotate_left
    ·show Act.put _ (some 21) _ = _
     simp only [Act.put,List.setIfInBounds_toArray,List.set_cons_zero,List.set_cons_succ,i64_w,i32_w]
     rfl
    refine one_ (i:=3) (N:=some 23) #[true,true,true,true,false,false] rfl rfl (by kernel_rfl) (by decide) (fun K hK => ?_)
    refine goes_ Try.func22 (by kernel_rfl) rfl #[.agg #[.string a1_0,.int .i64 a1_1,.slice A1_2 l1_2.length c1_2,.slice A1_3 l1_3.length c1_3]] (by rfl) rfl rfl (by (try simp only [List.map_toArray,List.map_cons,List.map_nil]);first | done | rfl | (simp only [List.length_drop,List.length_take];rfl)) ?_
    with_reducible refine (laws_toValue.calls k a1_0 a1_1 _ _ l1_2 _ _ l1_3 t296 t297 t298 t301 _ ?side1 ?side2 ?side3 ?side4 A14.out).mono ?_
    (case side1 => repeat (first | exact (Kd.C_below HR1_2.out HB.out) | (with_reducible refine Kd.C_alloc ?_ _) | (with_reducible refine Kd.C_drewN ?_ _) | (with_reducible refine Kd.C_drew ?_)))
    (case side2 => exact HC1_2.out)
    (case side3 => repeat (first | exact (Kd.C_below HR1_3.out HB.out) | (with_reducible refine Kd.C_alloc ?_ _) | (with_reducible refine Kd.C_drewN ?_ _) | (with_reducible refine Kd.C_drew ?_)))
    (case side4 => exact HC1_3.out)
    rintro e w26 ⟨v299,v302,rfl,ho0,ho1,hb⟩
    refine ⟨_,rfl,?_⟩
    have n0_:=Up.RB HO295 hb
    have n1_:=Aside0.mk (Kd.R_lower ho0 (below_size (by repeat (first | (with_reducible first | exact HB.out | apply below_alloc | apply pw_below_drewN | apply below_drew1 | refine below_set ?_ GE290.out) | exact HB.out))))
    have n2_:=Aside0.mk (Kd.R_lower ho1 (below_size (by repeat (first | (with_reducible first | exact HB.out | apply below_alloc | apply pw_below_drewN | apply below_drew1 | refine below_set ?_ GE290.out) | exact HB.out))))
    have n3_:=Up.KB BK290 hb
    have n4_:=Aside0.mk (below_step (by repeat (first | (with_reducible first | exact HB.out | apply below_alloc | apply pw_below_drewN | apply below_drew1 | refine below_set ?_ GE290.out) | exact HB.out)) hb)
    clear HO295
    clear BK290
    clear HB
    have HO295:=n0_
    have HO300:=n1_
    have HO303:=n2_
    have BK290:=n3_
    have HB:=n4_
    clear n0_ n1_ n2_ n3_ n4_
    (try clear hb)
    (try clear hb2)
    (try clear hk)
    (try clear hi)
    (try clear ho0)
    (try clear ho1)
    obtain ⟨Ao27,co27,eo27⟩:=Kd.R_slice HO295.out
    (first | subst eo27 | (injection eo27 with f1_ f2_ f3_;have f4_:=f1_.symm;have f5_:=f3_.symm;clear f1_ f2_ f3_;subst f4_;subst f5_))
    obtain ⟨Ao28,co28,eo28⟩:=Kd.R_slice HO300.out
    (first | subst eo28 | (injection eo28 with f1_ f2_ f3_;have f4_:=f1_.symm;have f5_:=f3_.symm;clear f1_ f2_ f3_;subst f4_;subst f5_))
    obtain ⟨Ao29,co29,eo29⟩:=Kd.R_slice HO303.out
    (first | subst eo29 | (injection eo29 with f1_ f2_ f3_;have f4_:=f1_.symm;have f5_:=f3_.symm;clear f1_ f2_ f3_;subst f4_;subst f5_))
    refine hK.out _ _ ⟨(blk_cell BK290.out 0).trans rfl,(blk_cell BK290.out 1).trans rfl,(blk_cell BK290.out 2).trans rfl,(blk_cell BK290.out 3).trans rfl⟩ (fun hHeld => ?_)
    clear hK K
    refine norm_ (a':=?_) ?_ ?_
    rotate_left
    ·show Act.put _ (some 23) _ = _
     simp only [Act.put,List.setIfInBounds_toArray,List.set_cons_zero,List.set_cons_succ,i64_w,i32_w]
     rfl
    refine one_ (i:=4) (N:=some 24) #[true,true,true,true,true,false] rfl rfl (by kernel_rfl) (by decide) (fun K hK => ?_)
    refine goes_ Try.func20 (by kernel_rfl) rfl #[.slice Ao27 t293.length co27,.agg #[.string t296,.int .i64 t297,.slice Ao28 t298.length co28,.slice Ao29 t301.length co29]] (by rfl) rfl rfl (by (try simp only [List.map_toArray,List.map_cons,List.map_nil]);first | done | rfl | (simp only [List.length_drop,List.length_take];rfl)) ?_
    with_reducible refine (spec_ValueOk.calls k _ _ t293 t296 t297 _ _ t298 _ _ t301 t304 _ ?side1 ?side2 ?side3 ?side4 ?side5 ?side6 A15.out).mono ?_
    (case side1 => repeat (first | exact (Kd.R_reads' HO295.out).2.2 | (with_reducible refine Kd.C_alloc ?_ _) | (with_reducible refine Kd.C_drewN ?_ _) | (with_reducible refine Kd.C_drew ?_)))
    (case side2 => exact (Kd.R_reads' HO295.out).2.1)
    (case side3 => repeat (first | exact (Kd.R_reads' HO300.out).2.2 | (with_reducible refine Kd.C_alloc ?_ _) | (with_reducible refine Kd.C_drewN ?_ _) | (with_reducible refine Kd.C_drew ?_)))
    (case side4 => exact (Kd.R_reads' HO300.out).2.1)
    (case side5 => repeat (first | exact (Kd.R_reads' HO303.out).2.2 | (with_reducible refine Kd.C_alloc ?_ _) | (with_reducible refine Kd.C_drewN ?_ _) | (with_reducible refine Kd.C_drew ?_)))
    (case side6 => exact (Kd.R_reads' HO303.out).2.1)
    rintro e w30 ⟨rfl,hb⟩
    refine ⟨_,rfl,?_⟩
    have n0_:=Up.RB HO295 hb
    have n1_:=Up.RB HO300 hb
    have n2_:=Up.RB HO303 hb
    have n3_:=Up.KB BK290 hb
    have n4_:=Aside0.mk (below_step (by repeat (first | (with_reducible first | exact HB.out | apply below_alloc | apply pw_below_drewN | apply below_drew1 | refine below_set ?_ GE290.out) | exact HB.out)) hb)
    clear HO295
    clear HO300
    clear HO303
    clear BK290
    clear HB
    have HO295:=n0_
    have HO300:=n1_
    have HO303:=n2_
    have BK290:=n3_
    have HB:=n4_
    clear n0_ n1_ n2_ n3_ n4_
    (try clear hb)
    (try clear hb2)
    (try clear hk)
    (try clear hi)
    refine hK.out _ _ ⟨(blk_cell BK290.out 0).trans rfl,(blk_cell BK290.out 1).trans rfl,(blk_cell BK290.out 2).trans rfl,(blk_cell BK290.out 3).trans rfl⟩ (fun hHeld => ?_)
    clear hK K
    refine norm_ (a':=?_) ?_ ?_
    rotate_left
    ·show Act.put _ (some 24) _ = _
     simp only [Act.put,List.setIfInBounds_toArray,List.set_cons_zero,List.set_cons_succ,i64_w,i32_w]
     rfl
    refine pure_ (i:=5) (N:=some 6) (v:=?_) (a':=?_) #[true,true,true,true,true,true] rfl rfl (by kernel_rfl) (fun _ _ _ h => h) (Or.inl ⟨by rfl,?_⟩) ?_ ?_
    rotate_left
    ·intro w'
     go_simp
     with_reducible rfl
    rotate_left
    ·simp only [Act.put,List.setIfInBounds_toArray,List.set_cons_zero,List.set_cons_succ,i64_w,i32_w]
     rfl
    refine done_ (by kernel_rfl) ?_
    try go_wp2_with (first | ((with_reducible refine gate_callee (f:=21) rfl ?_);refine goesL_ (some 26) rfl rfl Try.func21 (by kernel_rfl) rfl #[.slice A0 l0.length c0] rfl (by (try simp only [List.map_toArray,List.map_cons,List.map_nil]);first | done | rfl | (simp only [List.length_drop,List.length_take];rfl)) ?_;(with_reducible refine (laws_toRecordSS.calls k _ _ l0 t305 _ ?side1 ?side2 A16.out).mono ?_);(case side1 => repeat (first | exact (Kd.C_below HR0.out HB.out) | (with_reducible refine Kd.C_alloc ?_ _) | (with_reducible refine Kd.C_drewN ?_ _) | (with_reducible refine Kd.C_drew ?_)));(case side2 => exact HC0.out);rintro e w31 ⟨v306,rfl,ho0,hb⟩;refine ⟨_,rfl,?_⟩;have n0_:=Aside0.mk (Kd.R_elder' (Up.Rup HO295) (Kd.R_base ho0) hb);have n1_:=Up.RB HO300 hb;have n2_:=Up.RB HO303 hb;have n3_:=Aside0.mk (Kd.R_lower (Kd.R_new' ho0 (Kd.R_lt (Up.Rup HO295))) (below_size (by repeat (first | (with_reducible first | exact HB.out | apply below_alloc | apply pw_below_drewN | apply below_drew1 | refine below_set ?_ GE290.out) | exact HB.out))));have n4_:=Up.KB BK290 hb;have n5_:=Aside0.mk (below_step (by repeat (first | (with_reducible first | exact HB.out | apply below_alloc | apply pw_below_drewN | apply below_drew1 | refine below_set ?_ GE290.out) | exact HB.out)) hb);clear HO295;clear HO300;clear HO303;clear BK290;clear HB;have HO295:=n0_;have HO300:=n1_;have HO303:=n2_;have HO307:=n3_;have BK290:=n4_;have HB:=n5_;clear n0_ n1_ n2_ n3_ n4_ n5_;(try clear hb);(try clear hb2);(try clear hk);(try clear hi);(try clear ho0);have hcz32_0 : w31.cell? ⟨gb290,0,none⟩ = some (.string a1_0):=(blk_cell BK290.out 0).trans rfl;have hcz32_1 : w31.cell? ⟨gb290,1,none⟩ = some (.int .i64 a1_1):=(blk_cell BK290.out 1).trans rfl;have hcz32_2 : w31.cell? ⟨gb290,2,none⟩ = some (.slice A1_2 l1_2.length c1_2):=(blk_cell BK290.out 2).trans rfl;have hcz32_3 : w31.cell? ⟨gb290,3,none⟩ = some (.slice A1_3 l1_3.length c1_3):=(blk_cell BK290.out 3).trans rfl;have hfz32_0:=blk_frozen BK290.out 0;have hfz32_1:=blk_frozen BK290.out 1;have hfz32_2:=blk_frozen BK290.out 2;have hfz32_3:=blk_frozen BK290.out 3) | ((with_reducible refine gate_callee (f:=22) rfl ?_);refine goesL_ (some 28) rfl rfl Try.func22 (by kernel_rfl) rfl #[.agg #[.string a1_0,.int .i64 a1_1,.slice A1_2 l1_2.length c1_2,.slice A1_3 l1_3.length c1_3]] rfl (by (try simp only [List.map_toArray,List.map_cons,List.map_nil]);first | done | rfl | (simp only [List.length_drop,List.length_take];rfl)) ?_;(with_reducible refine (laws_toValue.calls k a1_0 a1_1 _ _ l1_2 _ _ l1_3 t308 t309 t310 t313 _ ?side1 ?side2 ?side3 ?side4 A17.out).mono ?_);(case side1 => repeat (first | exact (Kd.C_below HR1_2.out HB.out) | (with_reducible refine Kd.C_alloc ?_ _) | (with_reducible refine Kd.C_drewN ?_ _) | (with_reducible refine Kd.C_drew ?_)));(case side2 => exact HC1_2.out);(case side3 => repeat (first | exact (Kd.C_below HR1_3.out HB.out) | (with_reducible refine Kd.C_alloc ?_ _) | (with_reducible refine Kd.C_drewN ?_ _) | (with_reducible refine Kd.C_drew ?_)));(case side4 => exact HC1_3.out);rintro e w33 ⟨v311,v314,rfl,ho0,ho1,hb⟩;refine ⟨_,rfl,?_⟩;have n0_:=Up.RB HO295 hb;have n1_:=Aside0.mk (Kd.R_mono (Kd.R_told (Kd.R_told (Kd.R_old (Up.Rup HO300) hb) (Kd.R_base ho0)) (Kd.R_base ho1)) (fun _ h_ => h_.1));have n2_:=Aside0.mk (Kd.R_elder' (Up.Rup HO303) (Kd.R_base ho1) hb);have n3_:=Up.RB HO307 hb;have n4_:=Aside0.mk (Kd.R_lower (Kd.R_new' (Kd.R_new' ho0 (Kd.R_lt (Up.Rup HO300))) (Kd.R_lt (Up.Rup HO303))) (below_size (by repeat (first | (with_reducible first | exact HB.out | apply below_alloc | apply pw_below_drewN | apply below_drew1 | refine below_set ?_ GE290.out) | exact HB.out))));have n5_:=Aside0.mk (Kd.R_lower (Kd.R_new' ho1 (Kd.R_lt (Up.Rup HO303))) (below_size (by repeat (first | (with_reducible first | exact HB.out | apply below_alloc | apply pw_below_drewN | apply below_drew1 | refine below_set ?_ GE290.out) | exact HB.out))));have n6_:=Up.KB BK290 hb;have n7_:=Aside0.mk (below_step (by repeat (first | (with_reducible first | exact HB.out | apply below_alloc | apply pw_below_drewN | apply below_drew1 | refine below_set ?_ GE290.out) | exact HB.out)) hb);clear HO295;clear HO300;clear HO303;clear HO307;clear BK290;clear HB;have HO295:=n0_;have HO300:=n1_;have HO303:=n2_;have HO307:=n3_;have HO312:=n4_;have HO315:=n5_;have BK290:=n6_;have HB:=n7_;clear n0_ n1_ n2_ n3_ n4_ n5_ n6_ n7_;(try clear hb);(try clear hb2);(try clear hk);(try clear hi);(try clear ho0);(try clear ho1)) | ((with_reducible refine gate_dst (N:=8) rfl ?_);refine box_event ?hg (N:=8) ?hd (cs:=#[.string (⟨#[]⟩ : ByteArray),.int .i64 0,.slice none 0 0,.slice none 0 0]) (t:=27) ?hr ?_;(case hd => rfl);(case hg => rfl);(case hr => first | (go_simp;done) | (go_simp;rfl));intro gb316 hg w34 hbox hb;have n0_:=Up.RB HO295 hb;have n1_:=Aside0.mk (Kd.R_below (Kd.R_elderB (Up.Rup HO300) gb316 (Nat.le_of_eq hg.symm)) hb);have n2_:=Up.RB HO303 hb;have n3_:=Up.RB HO307 hb;have n4_:=Aside0.mk (Kd.R_below (Kd.R_elderB (Up.Rup HO312) gb316 (Nat.le_of_eq hg.symm)) hb);have n5_:=Up.RB HO315 hb;have n6_:=Up.KB BK290 hb;have n7_:=Aside0.mk (below_step (by repeat (first | (with_reducible first | exact HB.out | apply below_alloc | apply pw_below_drewN | apply below_drew1 | refine below_set ?_ GE290.out) | exact HB.out)) hb);have n8_:=Aside0.mk (hbox);have n9_:=Aside0.mk ((by rw [hg];exact (below_size (by repeat (first | (with_reducible first | exact HB.out | apply below_alloc | apply pw_below_drewN | apply below_drew1 | refine below_set ?_ GE290.out) | exact HB.out))) : w.heap.size ≤ gb316));have n10_:=Aside0.mk ((by rw [hg];exact (below_size (by repeat (first | (with_reducible first | exact HB.out | apply below_alloc | apply pw_below_drewN | apply below_drew1 | refine below_set ?_ GE290.out) | exact HB.out))) : w.heap.size ≤ gb316));have n11_:=Aside0.mk ((by rw [hg];exact Nat.ne_of_lt (blk_lt (g:=gb290) (o:=.cells #[.string a1_0,.int .i64 a1_1,.slice A1_2 l1_2.length c1_2,.slice A1_3 l1_3.length c1_3] 39 (0,0)) (Up.Kup BK290)) : gb290 ≠ gb316));have n12_:=Aside0.mk ((by rw [hg];exact Nat.ne_of_gt (blk_lt (g:=gb290) (o:=.cells #[.string a1_0,.int .i64 a1_1,.slice A1_2 l1_2.length c1_2,.slice A1_3 l1_3.length c1_3] 39 (0,0)) (Up.Kup BK290)) : gb316 ≠ gb290));clear HO295;clear HO300;clear HO303;clear HO307;clear HO312;clear HO315;clear BK290;clear HB;have HO295:=n0_;have HO300:=n1_;have HO303:=n2_;have HO307:=n3_;have HO312:=n4_;have HO315:=n5_;have BK290:=n6_;have HB:=n7_;have BK316:=n8_;have GW316:=n9_;have GE316:=n10_;have NB290_316:=n11_;have NB316_290:=n12_;clear n0_ n1_ n2_ n3_ n4_ n5_ n6_ n7_ n8_ n9_ n10_ n11_ n12_;clear hb hbox hg;have hnb35:=NB316_290.out;have hnc35:=NB290_316.out;have hcz36_0 : w34.cell? ⟨gb316,0,none⟩ = some (.string (⟨#[]⟩ : ByteArray)):=(blk_cell BK316.out 0).trans rfl;have hcz36_1 : w34.cell? ⟨gb316,1,none⟩ = some (.int .i64 0):=(blk_cell BK316.out 1).trans rfl;have hcz36_2 : w34.cell? ⟨gb316,2,none⟩ = some (.slice none 0 0):=(blk_cell BK316.out 2).trans rfl;have hcz36_3 : w34.cell? ⟨gb316,3,none⟩ = some (.slice none 0 0):=(blk_cell BK316.out 3).trans rfl;have hfz36_0:=blk_frozen BK316.out 0;have hfz36_1:=blk_frozen BK316.out 1;have hfz36_2:=blk_frozen BK316.out 2;have hfz36_3:=blk_frozen BK316.out 3;obtain ⟨Ao37,co37,eo37⟩:=Kd.R_slice HO312.out;subst eo37;obtain ⟨Ao38,co38,eo38⟩:=Kd.R_slice HO315.out;subst eo38;obtain ⟨Ao39,co39,eo39⟩:=Kd.R_slice HO307.out;subst eo39) | ((with_reducible refine gate_callee (f:=14) rfl ?_);refine goesL_ (some 31) rfl rfl Try.func14 (by kernel_rfl) rfl #[.slice Ao39 t305.length co39,.agg #[.string t308,.int .i64 t309,.slice Ao37 t310.length co37,.slice Ao38 t313.length co38]] rfl (by (try simp only [List.map_toArray,List.map_cons,List.map_nil]);first | done | rfl | (simp only [List.length_drop,List.length_take];rfl)) ?_;(with_reducible refine (impl_ValueOk.calls k _ _ t305 t308 t309 _ _ t310 _ _ t313 t317 _ ?side1 ?side2 ?side3 ?side4 ?side5 ?side6 A18.out).mono ?_);(case side1 => refine (Kd.R_reads' (e:=82) (base:=w.heap.size) (ok:=fun k_ => (True ∧ some k_ ≠ (.slice Ao27 t293.length co27 : Value).ownBlock)) (n:=t305.length) (c:=co39) ?_).2.2;exact (by (with_reducible repeat (first | apply Kd.R_alloc | apply Kd.R_drewN | apply Kd.R_drew));exact (Kd.R_mono (Kd.R_far (p:=⟨gb316,3,none⟩) (Kd.R_far (p:=⟨gb316,2,none⟩) (Kd.R_far (p:=⟨gb316,1,none⟩) (Kd.R_far (p:=⟨gb316,0,none⟩) (Kd.R_types HO307.out BK316.out (by decide)) (fun _ hk => hk.2) (.string t308)) (fun _ hk => hk.2) (.int .i64 t309)) (fun _ hk => hk.2) (.slice Ao37 t310.length co37)) (fun _ hk => hk.2) (.slice Ao38 t313.length co38)) (fun _ h_ => h_.1))));(case side2 => exact (Kd.R_reads' HO307.out).2.1);(case side3 => refine (Kd.R_reads' (e:=27) (base:=w.heap.size) (ok:=fun k_ => (((some k_ ≠ (.slice Ao38 t313.length co38 : Value).ownBlock ∧ some k_ ≠ (.slice Ao28 t298.length co28 : Value).ownBlock) ∧ some k_ ≠ (.slice Ao29 t301.length co29 : Value).ownBlock) ∧ k_ ≠ gb316)) (n:=t310.length) (c:=co37) ?_).2.2;exact (by (with_reducible repeat (first | apply Kd.R_alloc | apply Kd.R_drewN | apply Kd.R_drew));exact (Kd.R_mono (Kd.R_far (p:=⟨gb316,3,none⟩) (Kd.R_far (p:=⟨gb316,2,none⟩) (Kd.R_far (p:=⟨gb316,1,none⟩) (Kd.R_far (p:=⟨gb316,0,none⟩) (Kd.R_mono HO312.out (fun k_ hk => (⟨hk,hk.2⟩ : _ ∧ k_ ≠ gb316))) (fun _ hk => hk.2) (.string t308)) (fun _ hk => hk.2) (.int .i64 t309)) (fun _ hk => hk.2) (.slice Ao37 t310.length co37)) (fun _ hk => hk.2) (.slice Ao38 t313.length co38)) (fun _ h_ => h_.1))));(case side4 => exact (Kd.R_reads' HO312.out).2.1);(case side5 => refine (Kd.R_reads' (e:=3) (base:=w.heap.size) (ok:=fun k_ => (True ∧ some k_ ≠ (.slice Ao29 t301.length co29 : Value).ownBlock)) (n:=t313.length) (c:=co38) ?_).2.2;exact (by (with_reducible repeat (first | apply Kd.R_alloc | apply Kd.R_drewN | apply Kd.R_drew));exact (Kd.R_mono (Kd.R_far (p:=⟨gb316,3,none⟩) (Kd.R_far (p:=⟨gb316,2,none⟩) (Kd.R_far (p:=⟨gb316,1,none⟩) (Kd.R_far (p:=⟨gb316,0,none⟩) (Kd.R_types HO315.out BK316.out (by decide)) (fun _ hk => hk.2) (.string t308)) (fun _ hk => hk.2) (.int .i64 t309)) (fun _ hk => hk.2) (.slice Ao37 t310.length co37)) (fun _ hk => hk.2) (.slice Ao38 t313.length co38)) (fun _ h_ => h_.1))));(case side6 => exact (Kd.R_reads' HO315.out).2.1);rintro e w40 ⟨rfl,hb⟩;refine ⟨_,rfl,?_⟩;have n0_:=Aside0.mk (Kd.R_below (by (with_reducible repeat (first | apply Kd.R_alloc | apply Kd.R_drewN | apply Kd.R_drew));exact (Kd.R_mono (Kd.R_far (p:=⟨gb316,3,none⟩) (Kd.R_far (p:=⟨gb316,2,none⟩) (Kd.R_far (p:=⟨gb316,1,none⟩) (Kd.R_far (p:=⟨gb316,0,none⟩) (Kd.R_types HO295.out BK316.out (by decide)) (fun _ hk => hk.2) (.string t308)) (fun _ hk => hk.2) (.int .i64 t309)) (fun _ hk => hk.2) (.slice Ao37 t310.length co37)) (fun _ hk => hk.2) (.slice Ao38 t313.length co38)) (fun _ h_ => h_.1))) hb);have n1_:=Aside0.mk (Kd.R_below (by (with_reducible repeat (first | apply Kd.R_alloc | apply Kd.R_drewN | apply Kd.R_drew));exact (Kd.R_mono (Kd.R_far (p:=⟨gb316,3,none⟩) (Kd.R_far (p:=⟨gb316,2,none⟩) (Kd.R_far (p:=⟨gb316,1,none⟩) (Kd.R_far (p:=⟨gb316,0,none⟩) (Kd.R_mono HO300.out (fun k_ hk => (⟨hk,hk.2⟩ : _ ∧ k_ ≠ gb316))) (fun _ hk => hk.2) (.string t308)) (fun _ hk => hk.2) (.int .i64 t309)) (fun _ hk => hk.2) (.slice Ao37 t310.length co37)) (fun _ hk => hk.2) (.slice Ao38 t313.length co38)) (fun _ h_ => h_.1))) hb);have n2_:=Aside0.mk (Kd.R_below (by (with_reducible repeat (first | apply Kd.R_alloc | apply Kd.R_drewN | apply Kd.R_drew));exact (Kd.R_mono (Kd.R_far (p:=⟨gb316,3,none⟩) (Kd.R_far (p:=⟨gb316,2,none⟩) (Kd.R_far (p:=⟨gb316,1,none⟩) (Kd.R_far (p:=⟨gb316,0,none⟩) (Kd.R_types HO303.out BK316.out (by decide)) (fun _ hk => hk.2) (.string t308)) (fun _ hk => hk.2) (.int .i64 t309)) (fun _ hk => hk.2) (.slice Ao37 t310.length co37)) (fun _ hk => hk.2) (.slice Ao38 t313.length co38)) (fun _ h_ => h_.1))) hb);have n3_:=Aside0.mk (Kd.R_below (by (with_reducible repeat (first | apply Kd.R_alloc | apply Kd.R_drewN | apply Kd.R_drew));exact (Kd.R_mono (Kd.R_far (p:=⟨gb316,3,none⟩) (Kd.R_far (p:=⟨gb316,2,none⟩) (Kd.R_far (p:=⟨gb316,1,none⟩) (Kd.R_far (p:=⟨gb316,0,none⟩) (Kd.R_types HO307.out BK316.out (by decide)) (fun _ hk => hk.2) (.string t308)) (fun _ hk => hk.2) (.int .i64 t309)) (fun _ hk => hk.2) (.slice Ao37 t310.length co37)) (fun _ hk => hk.2) (.slice Ao38 t313.length co38)) (fun _ h_ => h_.1))) hb);have n4_:=Aside0.mk (Kd.R_below (by (with_reducible repeat (first | apply Kd.R_alloc | apply Kd.R_drewN | apply Kd.R_drew));exact (Kd.R_mono (Kd.R_far (p:=⟨gb316,3,none⟩) (Kd.R_far (p:=⟨gb316,2,none⟩) (Kd.R_far (p:=⟨gb316,1,none⟩) (Kd.R_far (p:=⟨gb316,0,none⟩) (Kd.R_mono HO312.out (fun k_ hk => (⟨hk,hk.2⟩ : _ ∧ k_ ≠ gb316))) (fun _ hk => hk.2) (.string t308)) (fun _ hk => hk.2) (.int .i64 t309)) (fun _ hk => hk.2) (.slice Ao37 t310.length co37)) (fun _ hk => hk.2) (.slice Ao38 t313.length co38)) (fun _ h_ => h_.1))) hb);have n5_:=Aside0.mk (Kd.R_below (by (with_reducible repeat (first | apply Kd.R_alloc | apply Kd.R_drewN | apply Kd.R_drew));exact (Kd.R_mono (Kd.R_far (p:=⟨gb316,3,none⟩) (Kd.R_far (p:=⟨gb316,2,none⟩) (Kd.R_far (p:=⟨gb316,1,none⟩) (Kd.R_far (p:=⟨gb316,0,none⟩) (Kd.R_types HO315.out BK316.out (by decide)) (fun _ hk => hk.2) (.string t308)) (fun _ hk => hk.2) (.int .i64 t309)) (fun _ hk => hk.2) (.slice Ao37 t310.length co37)) (fun _ hk => hk.2) (.slice Ao38 t313.length co38)) (fun _ h_ => h_.1))) hb);have n6_:=Aside0.mk (blk_below (g:=gb290) (o:=.cells #[.string a1_0,.int .i64 a1_1,.slice A1_2 l1_2.length c1_2,.slice A1_3 l1_3.length c1_3] 39 (0,0)) (by (with_reducible repeat (first | refine blk_drewN ?_ _ | refine blk_drew ?_ | refine blk_alloc ?_ _));refine blk_far ?_ NB290_316.out _;(with_reducible repeat (first | refine blk_drewN ?_ _ | refine blk_drew ?_ | refine blk_alloc ?_ _));refine blk_far ?_ NB290_316.out _;(with_reducible repeat (first | refine blk_drewN ?_ _ | refine blk_drew ?_ | refine blk_alloc ?_ _));refine blk_far ?_ NB290_316.out _;(with_reducible repeat (first | refine blk_drewN ?_ _ | refine blk_drew ?_ | refine blk_alloc ?_ _));refine blk_far ?_ NB290_316.out _;(with_reducible repeat (first | refine blk_drewN ?_ _ | refine blk_drew ?_ | refine blk_alloc ?_ _));exact BK290.out) hb);have n7_:=Aside0.mk (blk_below (g:=gb316) (o:=.cells #[.string t308,.int .i64 t309,.slice Ao37 t310.length co37,.slice Ao38 t313.length co38] 27 (0,0)) (by (with_reducible repeat (first | refine blk_drewN ?_ _ | refine blk_drew ?_ | refine blk_alloc ?_ _));refine blk_put (cs:=#[.string t308,.int .i64 t309,.slice Ao37 t310.length co37,.slice none 0 0]) ?_ 3 _ rfl;(with_reducible repeat (first | refine blk_drewN ?_ _ | refine blk_drew ?_ | refine blk_alloc ?_ _));refine blk_put (cs:=#[.string t308,.int .i64 t309,.slice none 0 0,.slice none 0 0]) ?_ 2 _ rfl;(with_reducible repeat (first | refine blk_drewN ?_ _ | refine blk_drew ?_ | refine blk_alloc ?_ _));refine blk_put (cs:=#[.string t308,.int .i64 0,.slice none 0 0,.slice none 0 0]) ?_ 1 _ rfl;(with_reducible repeat (first | refine blk_drewN ?_ _ | refine blk_drew ?_ | refine blk_alloc ?_ _));refine blk_put (cs:=#[.string (⟨#[]⟩ : ByteArray),.int .i64 0,.slice none 0 0,.slice none 0 0]) ?_ 0 _ rfl;(with_reducible repeat (first | refine blk_drewN ?_ _ | refine blk_drew ?_ | refine blk_alloc ?_ _));exact BK316.out) hb);have n8_:=Aside0.mk (below_step (by repeat (first | (with_reducible first | exact HB.out | apply below_alloc | apply pw_below_drewN | apply below_drew1 | refine below_set ?_ GE290.out | refine below_set ?_ GE316.out) | exact HB.out)) hb);clear HO295;clear HO300;clear HO303;clear HO307;clear HO312;clear HO315;clear BK290;clear BK316;clear HB;have HO295:=n0_;have HO300:=n1_;have HO303:=n2_;have HO307:=n3_;have HO312:=n4_;have HO315:=n5_;have BK290:=n6_;have BK316:=n7_;have HB:=n8_;clear n0_ n1_ n2_ n3_ n4_ n5_ n6_ n7_ n8_;(try clear hb);(try clear hb2);(try clear hk);(try clear hi)))
    go_ret
    exact ⟨by first | rfl | (simp [errW_none,errW_some] <;> rfl) | (simp [*,errW_none,errW_some] <;> rfl),by repeat (first | (with_reducible first | exact HB.out | apply below_alloc | apply pw_below_drewN | apply below_drew1 | refine below_set ?_ GE290.out | refine below_set ?_ GE316.out) | exact HB.out)⟩
   ·rw [if_neg c19] at H
    have c19b0 : (t317 != t304) = false:=by simpa using c19
    (try (have c19b1 : decide (t317 = t304) = true:=by simpa using c19))
    (try (have c19b2 : (t317 == t304) = true:=by simpa using c19))
    clear c19
    replace H:=Option.bind_eq_some_iff.mp H
    obtain ⟨t318,A410,H⟩:=H
    replace H : ((laws_eqRecordSS.f k t305 t318).bind fun t321 => (if t321 = true then ((laws_toValue.f k a1_0 a1_1 l1_2 l1_3).bind fun bt322 => ((laws_eqValue.f k t308 t309 t310 t313 bt322.1 bt322.2.1 bt322.2.2.1 bt322.2.2.2).bind fun t330 => (if t330 = true then (some true) else (some false)))) else (some false))) = some r:=H
    have A41:=Aside0.mk A410
    clear A410
    replace H:=Option.bind_eq_some_iff.mp H
    obtain ⟨t321,A420,H⟩:=H
    replace H : (if t321 = true then ((laws_toValue.f k a1_0 a1_1 l1_2 l1_3).bind fun bt322 => ((laws_eqValue.f k t308 t309 t310 t313 bt322.1 bt322.2.1 bt322.2.2.1 bt322.2.2.2).bind fun t330 => (if t330 = true then (some true) else (some false)))) else (some false)) = some r:=H
    have A42:=Aside0.mk A420
    clear A420
    by_cases c43 : t321 = true
    ·subst c43
     have H1 : ((laws_toValue.f k a1_0 a1_1 l1_2 l1_3).bind fun bt322 => ((laws_eqValue.f k t308 t309 t310 t313 bt322.1 bt322.2.1 bt322.2.2.1 bt322.2.2.2).bind fun t330 => (if t330 = true then (some true) else (some false)))) = some r:=by rw [if_pos rfl] at H;exact H
     clear H
     have H:=H1
     clear H1
     replace H:=Option.bind_eq_some_iff.mp H
     obtain ⟨⟨t322,t323,t324,t327⟩,A440,H⟩:=H
     replace H : ((laws_eqValue.f k t308 t309 t310 t313 t322 t323 t324 t327).bind fun t330 => (if t330 = true then (some true) else (some false))) = some r:=H
     have A44:=Aside0.mk A440
     clear A440
     replace H:=Option.bind_eq_some_iff.mp H
     obtain ⟨t330,A450,H⟩:=H
     replace H : (if t330 = true then (some true) else (some false)) = some r:=H
     have A45:=Aside0.mk A450
     clear A450
     by_cases c46 : t330 = true
     ·subst c46
      have H1 : (some true) = some r:=by rw [if_pos rfl] at H;exact H
      clear H
      have H:=H1
      clear H1
      obtain rfl:=Option.some.inj H
      go_enter Try.func5,Try.ntmps5
      try go_wp2_with (first | ((with_reducible refine gate_dst (N:=3) rfl ?_);refine box_event ?hg (N:=3) ?hd (cs:=#[.string a1_0,.int .i64 a1_1,.slice A1_2 l1_2.length c1_2,.slice A1_3 l1_3.length c1_3]) (t:=39) ?hr ?_;(case hd => rfl);(case hg => rfl);(case hr => first | (go_simp;done) | (go_simp;rfl));intro gb290 hg w47 hbox hb;have n0_:=Up.BB HB hb;have n1_:=Aside0.mk (hbox);have n2_:=Aside0.mk ((by rw [hg];exact (below_size (Up.Bup HB)) : w.heap.size ≤ gb290));have n3_:=Aside0.mk ((by rw [hg];exact (below_size (Up.Bup HB)) : w.heap.size ≤ gb290));clear HB;have HB:=n0_;have BK290:=n1_;have GW290:=n2_;have GE290:=n3_;clear n0_ n1_ n2_ n3_;clear hb hbox hg) | ((with_reducible refine gate_callee (f:=18) rfl ?_);refine goesL_ (some 12) rfl rfl Try.func18 (by kernel_rfl) rfl #[.slice A0 l0.length c0,.int .i64 1048576] rfl (by (try simp only [List.map_toArray,List.map_cons,List.map_nil]);first | done | rfl | (simp only [List.length_drop,List.length_take];rfl)) ?_;(with_reducible refine (laws_szRecordSS.calls k _ _ l0 1048576 t291 _ ?side1 ?side2 A3.out).mono ?_);(case side1 => repeat (first | exact (Kd.C_below HR0.out HB.out) | (with_reducible refine Kd.C_alloc ?_ _) | (with_reducible refine Kd.C_drewN ?_ _) | (with_reducible refine Kd.C_drew ?_)));(case side2 => exact HC0.out);rintro e w48 ⟨rfl,hb⟩;refine ⟨_,rfl,?_⟩;have n0_:=Up.KB BK290 hb;have n1_:=Aside0.mk (below_step (by repeat (first | (with_reducible first | exact HB.out | apply below_alloc | apply pw_below_drewN | apply below_drew1 | refine below_set ?_ GE290.out) | exact HB.out)) hb);clear BK290;clear HB;have BK290:=n0_;have HB:=n1_;clear n0_ n1_;(try clear hb);(try clear hb2);(try clear hk);(try clear hi);have hcz49_0 : w48.cell? ⟨gb290,0,none⟩ = some (.string a1_0):=(blk_cell BK290.out 0).trans rfl;have hcz49_1 : w48.cell? ⟨gb290,1,none⟩ = some (.int .i64 a1_1):=(blk_cell BK290.out 1).trans rfl;have hcz49_2 : w48.cell? ⟨gb290,2,none⟩ = some (.slice A1_2 l1_2.length c1_2):=(blk_cell BK290.out 2).trans rfl;have hcz49_3 : w48.cell? ⟨gb290,3,none⟩ = some (.slice A1_3 l1_3.length c1_3):=(blk_cell BK290.out 3).trans rfl;have hfz49_0:=blk_frozen BK290.out 0;have hfz49_1:=blk_frozen BK290.out 1;have hfz49_2:=blk_frozen BK290.out 2;have hfz49_3:=blk_frozen BK290.out 3) | ((with_reducible refine gate_callee (f:=19) rfl ?_);refine goesL_ (some 17) rfl rfl Try.func19 (by kernel_rfl) rfl #[.agg #[.string a1_0,.int .i64 a1_1,.slice A1_2 l1_2.length c1_2,.slice A1_3 l1_3.length c1_3],.int .i64 t291] rfl (by (try simp only [List.map_toArray,List.map_cons,List.map_nil]);first | done | rfl | (simp only [List.length_drop,List.length_take];rfl)) ?_;(with_reducible refine (laws_szValue.calls k a1_0 a1_1 _ _ l1_2 _ _ l1_3 t291 t292 _ ?side1 ?side2 ?side3 ?side4 A7.out).mono ?_);(case side1 => repeat (first | exact (Kd.C_below HR1_2.out HB.out) | (with_reducible refine Kd.C_alloc ?_ _) | (with_reducible refine Kd.C_drewN ?_ _) | (with_reducible refine Kd.C_drew ?_)));(case side2 => exact HC1_2.out);(case side3 => repeat (first | exact (Kd.C_below HR1_3.out HB.out) | (with_reducible refine Kd.C_alloc ?_ _) | (with_reducible refine Kd.C_drewN ?_ _) | (with_reducible refine Kd.C_drew ?_)));(case side4 => exact HC1_3.out);rintro e w50 ⟨rfl,hb⟩;refine ⟨_,rfl,?_⟩;have n0_:=Up.KB BK290 hb;have n1_:=Aside0.mk (below_step (by repeat (first | (with_reducible first | exact HB.out | apply below_alloc | apply pw_below_drewN | apply below_drew1 | refine below_set ?_ GE290.out) | exact HB.out)) hb);clear BK290;clear HB;have BK290:=n0_;have HB:=n1_;clear n0_ n1_;(try clear hb);(try clear hb2);(try clear hk);(try clear hi)))
      have n0_:=Aside0.mk (blk_drew BK290.out)
      have n1_:=Aside0.mk (below_drew1 HB.out)
      clear BK290
      clear HB
      have BK290:=n0_
      have HB:=n1_
      clear n0_ n1_
      refine start_ (n:=6) (S:=fun w' => w'.cell? ⟨gb290,0,none⟩ = some (.string a1_0) ∧ w'.cell? ⟨gb290,1,none⟩ = some (.int .i64 a1_1) ∧ w'.cell? ⟨gb290,2,none⟩ = some (.slice A1_2 l1_2.length c1_2) ∧ w'.cell? ⟨gb290,3,none⟩ = some (.slice A1_3 l1_3.length c1_3)) (ds:=[]) #[false,false,false,false,false,false] (by kernel_rfl) rfl rfl ⟨(blk_cell BK290.out 0).trans rfl,(blk_cell BK290.out 1).trans rfl,(blk_cell BK290.out 2).trans rfl,(blk_cell BK290.out 3).trans rfl⟩ (fun hHeld => ?_)
      generalize w50.drew = w51 at BK290 HB hHeld ⊢
      refine pure_ (i:=0) (N:=some 20) (v:=?_) (a':=?_) #[true,false,false,false,false,false] rfl rfl (by kernel_rfl) (fun _ _ _ h => h) (Or.inl ⟨by rfl,?_⟩) ?_ ?_
      rotate_left
      ·intro w'
       go_simp
       with_reducible rfl
      rotate_left
      ·simp only [Act.put,List.setIfInBounds_toArray,List.set_cons_zero,List.set_cons_succ,i64_w,i32_w]
       rfl
      refine take_ (i:=2) (N:=some 22) (v:=?_) (a':=?_) #[true,false,true,false,false,false] rfl rfl (by kernel_rfl) (fun _ _ _ h => h) (Or.inl ⟨by rfl,?_⟩) hHeld ?_ ?_
      rotate_left
      ·rintro w' ⟨s0,s1,s2,s3⟩
       go_simp
       with_reducible rfl
      rotate_left
      ·simp only [Act.put,List.setIfInBounds_toArray,List.set_cons_zero,List.set_cons_succ,i64_w,i32_w]
       rfl
      refine one_ (i:=1) (N:=some 21) #[true,true,true,false,false,false] rfl rfl (by kernel_rfl) (by decide) (fun K hK => ?_)
      refine goes_ Try.func21 (by kernel_rfl) rfl #[.slice A0 l0.length c0] (by rfl) rfl rfl (by (try simp only [List.map_toArray,List.map_cons,List.map_nil]);first | done | rfl | (simp only [List.length_drop,List.length_take];rfl)) ?_
      with_reducible refine (laws_toRecordSS.calls k _ _ l0 t293 _ ?side1 ?side2 A13.out).mono ?_
      (case side1 => repeat (first | exact (Kd.C_below HR0.out HB.out) | (with_reducible refine Kd.C_alloc ?_ _) | (with_reducible refine Kd.C_drewN ?_ _) | (with_reducible refine Kd.C_drew ?_)))
      (case side2 => exact HC0.out)
      rintro e w52 ⟨v294,rfl,ho0,hb⟩
      refine ⟨_,rfl,?_⟩
      have n0_:=Aside0.mk (Kd.R_lower ho0 (below_size (by repeat (first | (with_reducible first | exact HB.out | apply below_alloc | apply pw_below_drewN | apply below_drew1 | refine below_set ?_ GE290.out) | exact HB.out))))
      have n1_:=Up.KB BK290 hb
      have n2_:=Aside0.mk (below_step (by repeat (first | (with_reducible first | exact HB.out | apply below_alloc | apply pw_below_drewN | apply below_drew1 | refine below_set ?_ GE290.out) | exact HB.out)) hb)
      clear BK290
      clear HB
      have HO295:=n0_
      have BK290:=n1_
      have HB:=n2_
      clear n0_ n1_ n2_
      (try clear hb)
      (try clear hb2)
      (try clear hk)
      (try clear hi)
      (try clear ho0)
      refine hK.out _ _ ⟨(blk_cell BK290.out 0).trans rfl,(blk_cell BK290.out 1).trans rfl,(blk_cell BK290.out 2).trans rfl,(blk_cell BK290.out 3).trans rfl⟩ (fun hHeld => ?_)
      clear hK K
      refine norm_ (a':=?_) ?_ ?_
      rotate_left
      ·show Act.put _ (some 21) _ = _
       simp only [Act.put,List.setIfInBounds_toArray,List.set_cons_zero,List.set_cons_succ,i64_w,i32_w]
       rfl
      refine one_ (i:=3) (N:=some 23) #[true,true,true,true,false,false] rfl rfl (by kernel_rfl) (by decide) (fun K hK => ?_)
      refine goes_ Try.func22 (by kernel_rfl) rfl #[.agg #[.string a1_0,.int .i64 a1_1,.slice A1_2 l1_2.length c1_2,.slice A1_3 l1_3.length c1_3]] (by rfl) rfl rfl (by (try simp only [List.map_toArray,List.map_cons,List.map_nil]);first | done | rfl | (simp only [List.length_drop,List.length_take];rfl)) ?_
      with_reducible refine (laws_toValue.calls k a1_0 a1_1 _ _ l1_2 _ _ l1_3 t296 t297 t298 t301 _ ?side1 ?side2 ?side3 ?side4 A14.out).mono ?_
      (case side1 => repeat (first | exact (Kd.C_below HR1_2.out HB.out) | (with_reducible refine Kd.C_alloc ?_ _) | (with_reducible refine Kd.C_drewN ?_ _) | (with_reducible refine Kd.C_drew ?_)))
      (case side2 => exact HC1_2.out)
      (case side3 => repeat (first | exact (Kd.C_below HR1_3.out HB.out) | (with_reducible refine Kd.C_alloc ?_ _) | (with_reducible refine Kd.C_drewN ?_ _) | (with_reducible refine Kd.C_drew ?_)))
      (case side4 => exact HC1_3.out)
      rintro e w53 ⟨v299,v302,rfl,ho0,ho1,hb⟩
      refine ⟨_,rfl,?_⟩
      have n0_:=Up.RB HO295 hb
      have n1_:=Aside0.mk (Kd.R_lower ho0 (below_size (by repeat (first | (with_reducible first | exact HB.out | apply below_alloc | apply pw_below_drewN | apply below_drew1 | refine below_set ?_ GE290.out) | exact HB.out))))
      have n2_:=Aside0.mk (Kd.R_lower ho1 (below_size (by repeat (first | (with_reducible first | exact HB.out | apply below_alloc | apply pw_below_drewN | apply below_drew1 | refine below_set ?_ GE290.out) | exact HB.out))))
      have n3_:=Up.KB BK290 hb
      have n4_:=Aside0.mk (below_step (by repeat (first | (with_reducible first | exact HB.out | apply below_alloc | apply pw_below_drewN | apply below_drew1 | refine below_set ?_ GE290.out) | exact HB.out)) hb)
      clear HO295
      clear BK290
      clear HB
      have HO295:=n0_
      have HO300:=n1_
      have HO303:=n2_
      have BK290:=n3_
      have HB:=n4_
      clear n0_ n1_ n2_ n3_ n4_
      (try clear hb)
      (try clear hb2)
      (try clear hk)
      (try clear hi)
      (try clear ho0)
      (try clear ho1)
      obtain ⟨Ao54,co54,eo54⟩:=Kd.R_slice HO295.out
      (first | subst eo54 | (injection eo54 with f1_ f2_ f3_;have f4_:=f1_.symm;have f5_:=f3_.symm;clear f1_ f2_ f3_;subst f4_;subst f5_))
      obtain ⟨Ao55,co55,eo55⟩:=Kd.R_slice HO300.out
      (first | subst eo55 | (injection eo55 with f1_ f2_ f3_;have f4_:=f1_.symm;have f5_:=f3_.symm;clear f1_ f2_ f3_;subst f4_;subst f5_))
      obtain ⟨Ao56,co56,eo56⟩:=Kd.R_slice HO303.out
      (first | subst eo56 | (injection eo56 with f1_ f2_ f3_;have f4_:=f1_.symm;have f5_:=f3_.symm;clear f1_ f2_ f3_;subst f4_;subst f5_))
      refine hK.out _ _ ⟨(blk_cell BK290.out 0).trans rfl,(blk_cell BK290.out 1).trans rfl,(blk_cell BK290.out 2).trans rfl,(blk_cell BK290.out 3).trans rfl⟩ (fun hHeld => ?_)
      clear hK K
      refine norm_ (a':=?_) ?_ ?_
      rotate_left
      ·show Act.put _ (some 23) _ = _
       simp only [Act.put,List.setIfInBounds_toArray,List.set_cons_zero,List.set_cons_succ,i64_w,i32_w]
       rfl
      refine one_ (i:=4) (N:=some 24) #[true,true,true,true,true,false] rfl rfl (by kernel_rfl) (by decide) (fun K hK => ?_)
      refine goes_ Try.func20 (by kernel_rfl) rfl #[.slice Ao54 t293.length co54,.agg #[.string t296,.int .i64 t297,.slice Ao55 t298.length co55,.slice Ao56 t301.length co56]] (by rfl) rfl rfl (by (try simp only [List.map_toArray,List.map_cons,List.map_nil]);first | done | rfl | (simp only [List.length_drop,List.length_take];rfl)) ?_
      with_reducible refine (spec_ValueOk.calls k _ _ t293 t296 t297 _ _ t298 _ _ t301 t304 _ ?side1 ?side2 ?side3 ?side4 ?side5 ?side6 A15.out).mono ?_
      (case side1 => repeat (first | exact (Kd.R_reads' HO295.out).2.2 | (with_reducible refine Kd.C_alloc ?_ _) | (with_reducible refine Kd.C_drewN ?_ _) | (with_reducible refine Kd.C_drew ?_)))
      (case side2 => exact (Kd.R_reads' HO295.out).2.1)
      (case side3 => repeat (first | exact (Kd.R_reads' HO300.out).2.2 | (with_reducible refine Kd.C_alloc ?_ _) | (with_reducible refine Kd.C_drewN ?_ _) | (with_reducible refine Kd.C_drew ?_)))
      (case side4 => exact (Kd.R_reads' HO300.out).2.1)
      (case side5 => repeat (first | exact (Kd.R_reads' HO303.out).2.2 | (with_reducible refine Kd.C_alloc ?_ _) | (with_reducible refine Kd.C_drewN ?_ _) | (with_reducible refine Kd.C_drew ?_)))
      (case side6 => exact (Kd.R_reads' HO303.out).2.1)
      rintro e w57 ⟨rfl,hb⟩
      refine ⟨_,rfl,?_⟩
      have n0_:=Up.RB HO295 hb
      have n1_:=Up.RB HO300 hb
      have n2_:=Up.RB HO303 hb
      have n3_:=Up.KB BK290 hb
      have n4_:=Aside0.mk (below_step (by repeat (first | (with_reducible first | exact HB.out | apply below_alloc | apply pw_below_drewN | apply below_drew1 | refine below_set ?_ GE290.out) | exact HB.out)) hb)
      clear HO295
      clear HO300
      clear HO303
      clear BK290
      clear HB
      have HO295:=n0_
      have HO300:=n1_
      have HO303:=n2_
      have BK290:=n3_
      have HB:=n4_
      clear n0_ n1_ n2_ n3_ n4_
      (try clear hb)
      (try clear hb2)
      (try clear hk)
      (try clear hi)
      refine hK.out _ _ ⟨(blk_cell BK290.out 0).trans rfl,(blk_cell BK290.out 1).trans rfl,(blk_cell BK290.out 2).trans rfl,(blk_cell BK290.out 3).trans rfl⟩ (fun hHeld => ?_)
      clear hK K
      refine norm_ (a':=?_) ?_ ?_
      rotate_left
      ·show Act.put _ (some 24) _ = _
       simp only [Act.put,List.setIfInBounds_toArray,List.set_cons_zero,List.set_cons_succ,i64_w,i32_w]
       rfl
      refine pure_ (i:=5) (N:=some 6) (v:=?_) (a':=?_) #[true,true,true,true,true,true] rfl rfl (by kernel_rfl) (fun _ _ _ h => h) (Or.inl ⟨by rfl,?_⟩) ?_ ?_
      rotate_left
      ·intro w'
       go_simp
       with_reducible rfl
      rotate_left
      ·simp only [Act.put,List.setIfInBounds_toArray,List.set_cons_zero,List.set_cons_succ,i64_w,i32_w]
       rfl
      refine done_ (by kernel_rfl) ?_
      try go_wp2_with (first | ((with_reducible refine gate_callee (f:=21) rfl ?_);refine goesL_ (some 26) rfl rfl Try.func21 (by kernel_rfl) rfl #[.slice A0 l0.length c0] rfl (by (try simp only [List.map_toArray,List.map_cons,List.map_nil]);first | done | rfl | (simp only [List.length_drop,List.length_take];rfl)) ?_;(with_reducible refine (laws_toRecordSS.calls k _ _ l0 t305 _ ?side1 ?side2 A16.out).mono ?_);(case side1 => repeat (first | exact (Kd.C_below HR0.out HB.out) | (with_reducible refine Kd.C_alloc ?_ _) | (with_reducible refine Kd.C_drewN ?_ _) | (with_reducible refine Kd.C_drew ?_)));(case side2 => exact HC0.out);rintro e w58 ⟨v306,rfl,ho0,hb⟩;refine ⟨_,rfl,?_⟩;have n0_:=Aside0.mk (Kd.R_elder' (Up.Rup HO295) (Kd.R_base ho0) hb);have n1_:=Up.RB HO300 hb;have n2_:=Up.RB HO303 hb;have n3_:=Aside0.mk (Kd.R_lower (Kd.R_new' ho0 (Kd.R_lt (Up.Rup HO295))) (below_size (by repeat (first | (with_reducible first | exact HB.out | apply below_alloc | apply pw_below_drewN | apply below_drew1 | refine below_set ?_ GE290.out) | exact HB.out))));have n4_:=Up.KB BK290 hb;have n5_:=Aside0.mk (below_step (by repeat (first | (with_reducible first | exact HB.out | apply below_alloc | apply pw_below_drewN | apply below_drew1 | refine below_set ?_ GE290.out) | exact HB.out)) hb);clear HO295;clear HO300;clear HO303;clear BK290;clear HB;have HO295:=n0_;have HO300:=n1_;have HO303:=n2_;have HO307:=n3_;have BK290:=n4_;have HB:=n5_;clear n0_ n1_ n2_ n3_ n4_ n5_;(try clear hb);(try clear hb2);(try clear hk);(try clear hi);(try clear ho0);have hcz59_0 : w58.cell? ⟨gb290,0,none⟩ = some (.string a1_0):=(blk_cell BK290.out 0).trans rfl;have hcz59_1 : w58.cell? ⟨gb290,1,none⟩ = some (.int .i64 a1_1):=(blk_cell BK290.out 1).trans rfl;have hcz59_2 : w58.cell? ⟨gb290,2,none⟩ = some (.slice A1_2 l1_2.length c1_2):=(blk_cell BK290.out 2).trans rfl;have hcz59_3 : w58.cell? ⟨gb290,3,none⟩ = some (.slice A1_3 l1_3.length c1_3):=(blk_cell BK290.out 3).trans rfl;have hfz59_0:=blk_frozen BK290.out 0;have hfz59_1:=blk_frozen BK290.out 1;have hfz59_2:=blk_frozen BK290.out 2;have hfz59_3:=blk_frozen BK290.out 3) | ((with_reducible refine gate_callee (f:=22) rfl ?_);refine goesL_ (some 28) rfl rfl Try.func22 (by kernel_rfl) rfl #[.agg #[.string a1_0,.int .i64 a1_1,.slice A1_2 l1_2.length c1_2,.slice A1_3 l1_3.length c1_3]] rfl (by (try simp only [List.map_toArray,List.map_cons,List.map_nil]);first | done | rfl | (simp only [List.length_drop,List.length_take];rfl)) ?_;(with_reducible refine (laws_toValue.calls k a1_0 a1_1 _ _ l1_2 _ _ l1_3 t308 t309 t310 t313 _ ?side1 ?side2 ?side3 ?side4 A17.out).mono ?_);(case side1 => repeat (first | exact (Kd.C_below HR1_2.out HB.out) | (with_reducible refine Kd.C_alloc ?_ _) | (with_reducible refine Kd.C_drewN ?_ _) | (with_reducible refine Kd.C_drew ?_)));(case side2 => exact HC1_2.out);(case side3 => repeat (first | exact (Kd.C_below HR1_3.out HB.out) | (with_reducible refine Kd.C_alloc ?_ _) | (with_reducible refine Kd.C_drewN ?_ _) | (with_reducible refine Kd.C_drew ?_)));(case side4 => exact HC1_3.out);rintro e w60 ⟨v311,v314,rfl,ho0,ho1,hb⟩;refine ⟨_,rfl,?_⟩;have n0_:=Up.RB HO295 hb;have n1_:=Aside0.mk (Kd.R_mono (Kd.R_told (Kd.R_told (Kd.R_old (Up.Rup HO300) hb) (Kd.R_base ho0)) (Kd.R_base ho1)) (fun _ h_ => h_.1));have n2_:=Aside0.mk (Kd.R_elder' (Up.Rup HO303) (Kd.R_base ho1) hb);have n3_:=Up.RB HO307 hb;have n4_:=Aside0.mk (Kd.R_lower (Kd.R_new' (Kd.R_new' ho0 (Kd.R_lt (Up.Rup HO300))) (Kd.R_lt (Up.Rup HO303))) (below_size (by repeat (first | (with_reducible first | exact HB.out | apply below_alloc | apply pw_below_drewN | apply below_drew1 | refine below_set ?_ GE290.out) | exact HB.out))));have n5_:=Aside0.mk (Kd.R_lower (Kd.R_new' ho1 (Kd.R_lt (Up.Rup HO303))) (below_size (by repeat (first | (with_reducible first | exact HB.out | apply below_alloc | apply pw_below_drewN | apply below_drew1 | refine below_set ?_ GE290.out) | exact HB.out))));have n6_:=Up.KB BK290 hb;have n7_:=Aside0.mk (below_step (by repeat (first | (with_reducible first | exact HB.out | apply below_alloc | apply pw_below_drewN | apply below_drew1 | refine below_set ?_ GE290.out) | exact HB.out)) hb);clear HO295;clear HO300;clear HO303;clear HO307;clear BK290;clear HB;have HO295:=n0_;have HO300:=n1_;have HO303:=n2_;have HO307:=n3_;have HO312:=n4_;have HO315:=n5_;have BK290:=n6_;have HB:=n7_;clear n0_ n1_ n2_ n3_ n4_ n5_ n6_ n7_;(try clear hb);(try clear hb2);(try clear hk);(try clear hi);(try clear ho0);(try clear ho1)) | ((with_reducible refine gate_dst (N:=8) rfl ?_);refine box_event ?hg (N:=8) ?hd (cs:=#[.string (⟨#[]⟩ : ByteArray),.int .i64 0,.slice none 0 0,.slice none 0 0]) (t:=27) ?hr ?_;(case hd => rfl);(case hg => rfl);(case hr => first | (go_simp;done) | (go_simp;rfl));intro gb316 hg w61 hbox hb;have n0_:=Up.RB HO295 hb;have n1_:=Aside0.mk (Kd.R_below (Kd.R_elderB (Up.Rup HO300) gb316 (Nat.le_of_eq hg.symm)) hb);have n2_:=Up.RB HO303 hb;have n3_:=Up.RB HO307 hb;have n4_:=Aside0.mk (Kd.R_below (Kd.R_elderB (Up.Rup HO312) gb316 (Nat.le_of_eq hg.symm)) hb);have n5_:=Up.RB HO315 hb;have n6_:=Up.KB BK290 hb;have n7_:=Aside0.mk (below_step (by repeat (first | (with_reducible first | exact HB.out | apply below_alloc | apply pw_below_drewN | apply below_drew1 | refine below_set ?_ GE290.out) | exact HB.out)) hb);have n8_:=Aside0.mk (hbox);have n9_:=Aside0.mk ((by rw [hg];exact (below_size (by repeat (first | (with_reducible first | exact HB.out | apply below_alloc | apply pw_below_drewN | apply below_drew1 | refine below_set ?_ GE290.out) | exact HB.out))) : w.heap.size ≤ gb316));have n10_:=Aside0.mk ((by rw [hg];exact (below_size (by repeat (first | (with_reducible first | exact HB.out | apply below_alloc | apply pw_below_drewN | apply below_drew1 | refine below_set ?_ GE290.out) | exact HB.out))) : w.heap.size ≤ gb316));have n11_:=Aside0.mk ((by rw [hg];exact Nat.ne_of_lt (blk_lt (g:=gb290) (o:=.cells #[.string a1_0,.int .i64 a1_1,.slice A1_2 l1_2.length c1_2,.slice A1_3 l1_3.length c1_3] 39 (0,0)) (Up.Kup BK290)) : gb290 ≠ gb316));have n12_:=Aside0.mk ((by rw [hg];exact Nat.ne_of_gt (blk_lt (g:=gb290) (o:=.cells #[.string a1_0,.int .i64 a1_1,.slice A1_2 l1_2.length c1_2,.slice A1_3 l1_3.length c1_3] 39 (0,0)) (Up.Kup BK290)) : gb316 ≠ gb290));clear HO295;clear HO300;clear HO303;clear HO307;clear HO312;clear HO315;clear BK290;clear HB;have HO295:=n0_;have HO300:=n1_;have HO303:=n2_;have HO307:=n3_;have HO312:=n4_;have HO315:=n5_;have BK290:=n6_;have HB:=n7_;have BK316:=n8_;have GW316:=n9_;have GE316:=n10_;have NB290_316:=n11_;have NB316_290:=n12_;clear n0_ n1_ n2_ n3_ n4_ n5_ n6_ n7_ n8_ n9_ n10_ n11_ n12_;clear hb hbox hg;have hnb62:=NB316_290.out;have hnc62:=NB290_316.out;have hcz63_0 : w61.cell? ⟨gb316,0,none⟩ = some (.string (⟨#[]⟩ : ByteArray)):=(blk_cell BK316.out 0).trans rfl;have hcz63_1 : w61.cell? ⟨gb316,1,none⟩ = some (.int .i64 0):=(blk_cell BK316.out 1).trans rfl;have hcz63_2 : w61.cell? ⟨gb316,2,none⟩ = some (.slice none 0 0):=(blk_cell BK316.out 2).trans rfl;have hcz63_3 : w61.cell? ⟨gb316,3,none⟩ = some (.slice none 0 0):=(blk_cell BK316.out 3).trans rfl;have hfz63_0:=blk_frozen BK316.out 0;have hfz63_1:=blk_frozen BK316.out 1;have hfz63_2:=blk_frozen BK316.out 2;have hfz63_3:=blk_frozen BK316.out 3;obtain ⟨Ao64,co64,eo64⟩:=Kd.R_slice HO312.out;subst eo64;obtain ⟨Ao65,co65,eo65⟩:=Kd.R_slice HO315.out;subst eo65;obtain ⟨Ao66,co66,eo66⟩:=Kd.R_slice HO307.out;subst eo66) | ((with_reducible refine gate_callee (f:=14) rfl ?_);refine goesL_ (some 31) rfl rfl Try.func14 (by kernel_rfl) rfl #[.slice Ao66 t305.length co66,.agg #[.string t308,.int .i64 t309,.slice Ao64 t310.length co64,.slice Ao65 t313.length co65]] rfl (by (try simp only [List.map_toArray,List.map_cons,List.map_nil]);first | done | rfl | (simp only [List.length_drop,List.length_take];rfl)) ?_;(with_reducible refine (impl_ValueOk.calls k _ _ t305 t308 t309 _ _ t310 _ _ t313 t317 _ ?side1 ?side2 ?side3 ?side4 ?side5 ?side6 A18.out).mono ?_);(case side1 => refine (Kd.R_reads' (e:=82) (base:=w.heap.size) (ok:=fun k_ => (True ∧ some k_ ≠ (.slice Ao54 t293.length co54 : Value).ownBlock)) (n:=t305.length) (c:=co66) ?_).2.2;exact (by (with_reducible repeat (first | apply Kd.R_alloc | apply Kd.R_drewN | apply Kd.R_drew));exact (Kd.R_mono (Kd.R_far (p:=⟨gb316,3,none⟩) (Kd.R_far (p:=⟨gb316,2,none⟩) (Kd.R_far (p:=⟨gb316,1,none⟩) (Kd.R_far (p:=⟨gb316,0,none⟩) (Kd.R_types HO307.out BK316.out (by decide)) (fun _ hk => hk.2) (.string t308)) (fun _ hk => hk.2) (.int .i64 t309)) (fun _ hk => hk.2) (.slice Ao64 t310.length co64)) (fun _ hk => hk.2) (.slice Ao65 t313.length co65)) (fun _ h_ => h_.1))));(case side2 => exact (Kd.R_reads' HO307.out).2.1);(case side3 => refine (Kd.R_reads' (e:=27) (base:=w.heap.size) (ok:=fun k_ => (((some k_ ≠ (.slice Ao65 t313.length co65 : Value).ownBlock ∧ some k_ ≠ (.slice Ao55 t298.length co55 : Value).ownBlock) ∧ some k_ ≠ (.slice Ao56 t301.length co56 : Value).ownBlock) ∧ k_ ≠ gb316)) (n:=t310.length) (c:=co64) ?_).2.2;exact (by (with_reducible repeat (first | apply Kd.R_alloc | apply Kd.R_drewN | apply Kd.R_drew));exact (Kd.R_mono (Kd.R_far (p:=⟨gb316,3,none⟩) (Kd.R_far (p:=⟨gb316,2,none⟩) (Kd.R_far (p:=⟨gb316,1,none⟩) (Kd.R_far (p:=⟨gb316,0,none⟩) (Kd.R_mono HO312.out (fun k_ hk => (⟨hk,hk.2⟩ : _ ∧ k_ ≠ gb316))) (fun _ hk => hk.2) (.string t308)) (fun _ hk => hk.2) (.int .i64 t309)) (fun _ hk => hk.2) (.slice Ao64 t310.length co64)) (fun _ hk => hk.2) (.slice Ao65 t313.length co65)) (fun _ h_ => h_.1))));(case side4 => exact (Kd.R_reads' HO312.out).2.1);(case side5 => refine (Kd.R_reads' (e:=3) (base:=w.heap.size) (ok:=fun k_ => (True ∧ some k_ ≠ (.slice Ao56 t301.length co56 : Value).ownBlock)) (n:=t313.length) (c:=co65) ?_).2.2;exact (by (with_reducible repeat (first | apply Kd.R_alloc | apply Kd.R_drewN | apply Kd.R_drew));exact (Kd.R_mono (Kd.R_far (p:=⟨gb316,3,none⟩) (Kd.R_far (p:=⟨gb316,2,none⟩) (Kd.R_far (p:=⟨gb316,1,none⟩) (Kd.R_far (p:=⟨gb316,0,none⟩) (Kd.R_types HO315.out BK316.out (by decide)) (fun _ hk => hk.2) (.string t308)) (fun _ hk => hk.2) (.int .i64 t309)) (fun _ hk => hk.2) (.slice Ao64 t310.length co64)) (fun _ hk => hk.2) (.slice Ao65 t313.length co65)) (fun _ h_ => h_.1))));(case side6 => exact (Kd.R_reads' HO315.out).2.1);rintro e w67 ⟨rfl,hb⟩;refine ⟨_,rfl,?_⟩;have n0_:=Aside0.mk (Kd.R_below (by (with_reducible repeat (first | apply Kd.R_alloc | apply Kd.R_drewN | apply Kd.R_drew));exact (Kd.R_mono (Kd.R_far (p:=⟨gb316,3,none⟩) (Kd.R_far (p:=⟨gb316,2,none⟩) (Kd.R_far (p:=⟨gb316,1,none⟩) (Kd.R_far (p:=⟨gb316,0,none⟩) (Kd.R_types HO295.out BK316.out (by decide)) (fun _ hk => hk.2) (.string t308)) (fun _ hk => hk.2) (.int .i64 t309)) (fun _ hk => hk.2) (.slice Ao64 t310.length co64)) (fun _ hk => hk.2) (.slice Ao65 t313.length co65)) (fun _ h_ => h_.1))) hb);have n1_:=Aside0.mk (Kd.R_below (by (with_reducible repeat (first | apply Kd.R_alloc | apply Kd.R_drewN | apply Kd.R_drew));exact (Kd.R_mono (Kd.R_far (p:=⟨gb316,3,none⟩) (Kd.R_far (p:=⟨gb316,2,none⟩) (Kd.R_far (p:=⟨gb316,1,none⟩) (Kd.R_far (p:=⟨gb316,0,none⟩) (Kd.R_mono HO300.out (fun k_ hk => (⟨hk,hk.2⟩ : _ ∧ k_ ≠ gb316))) (fun _ hk => hk.2) (.string t308)) (fun _ hk => hk.2) (.int .i64 t309)) (fun _ hk => hk.2) (.slice Ao64 t310.length co64)) (fun _ hk => hk.2) (.slice Ao65 t313.length co65)) (fun _ h_ => h_.1))) hb);have n2_:=Aside0.mk (Kd.R_below (by (with_reducible repeat (first | apply Kd.R_alloc | apply Kd.R_drewN | apply Kd.R_drew));exact (Kd.R_mono (Kd.R_far (p:=⟨gb316,3,none⟩) (Kd.R_far (p:=⟨gb316,2,none⟩) (Kd.R_far (p:=⟨gb316,1,none⟩) (Kd.R_far (p:=⟨gb316,0,none⟩) (Kd.R_types HO303.out BK316.out (by decide)) (fun _ hk => hk.2) (.string t308)) (fun _ hk => hk.2) (.int .i64 t309)) (fun _ hk => hk.2) (.slice Ao64 t310.length co64)) (fun _ hk => hk.2) (.slice Ao65 t313.length co65)) (fun _ h_ => h_.1))) hb);have n3_:=Aside0.mk (Kd.R_below (by (with_reducible repeat (first | apply Kd.R_alloc | apply Kd.R_drewN | apply Kd.R_drew));exact (Kd.R_mono (Kd.R_far (p:=⟨gb316,3,none⟩) (Kd.R_far (p:=⟨gb316,2,none⟩) (Kd.R_far (p:=⟨gb316,1,none⟩) (Kd.R_far (p:=⟨gb316,0,none⟩) (Kd.R_types HO307.out BK316.out (by decide)) (fun _ hk => hk.2) (.string t308)) (fun _ hk => hk.2) (.int .i64 t309)) (fun _ hk => hk.2) (.slice Ao64 t310.length co64)) (fun _ hk => hk.2) (.slice Ao65 t313.length co65)) (fun _ h_ => h_.1))) hb);have n4_:=Aside0.mk (Kd.R_below (by (with_reducible repeat (first | apply Kd.R_alloc | apply Kd.R_drewN | apply Kd.R_drew));exact (Kd.R_mono (Kd.R_far (p:=⟨gb316,3,none⟩) (Kd.R_far (p:=⟨gb316,2,none⟩) (Kd.R_far (p:=⟨gb316,1,none⟩) (Kd.R_far (p:=⟨gb316,0,none⟩) (Kd.R_mono HO312.out (fun k_ hk => (⟨hk,hk.2⟩ : _ ∧ k_ ≠ gb316))) (fun _ hk => hk.2) (.string t308)) (fun _ hk => hk.2) (.int .i64 t309)) (fun _ hk => hk.2) (.slice Ao64 t310.length co64)) (fun _ hk => hk.2) (.slice Ao65 t313.length co65)) (fun _ h_ => h_.1))) hb);have n5_:=Aside0.mk (Kd.R_below (by (with_reducible repeat (first | apply Kd.R_alloc | apply Kd.R_drewN | apply Kd.R_drew));exact (Kd.R_mono (Kd.R_far (p:=⟨gb316,3,none⟩) (Kd.R_far (p:=⟨gb316,2,none⟩) (Kd.R_far (p:=⟨gb316,1,none⟩) (Kd.R_far (p:=⟨gb316,0,none⟩) (Kd.R_types HO315.out BK316.out (by decide)) (fun _ hk => hk.2) (.string t308)) (fun _ hk => hk.2) (.int .i64 t309)) (fun _ hk => hk.2) (.slice Ao64 t310.length co64)) (fun _ hk => hk.2) (.slice Ao65 t313.length co65)) (fun _ h_ => h_.1))) hb);have n6_:=Aside0.mk (blk_below (g:=gb290) (o:=.cells #[.string a1_0,.int .i64 a1_1,.slice A1_2 l1_2.length c1_2,.slice A1_3 l1_3.length c1_3] 39 (0,0)) (by (with_reducible repeat (first | refine blk_drewN ?_ _ | refine blk_drew ?_ | refine blk_alloc ?_ _));refine blk_far ?_ NB290_316.out _;(with_reducible repeat (first | refine blk_drewN ?_ _ | refine blk_drew ?_ | refine blk_alloc ?_ _));refine blk_far ?_ NB290_316.out _;(with_reducible repeat (first | refine blk_drewN ?_ _ | refine blk_drew ?_ | refine blk_alloc ?_ _));refine blk_far ?_ NB290_316.out _;(with_reducible repeat (first | refine blk_drewN ?_ _ | refine blk_drew ?_ | refine blk_alloc ?_ _));refine blk_far ?_ NB290_316.out _;(with_reducible repeat (first | refine blk_drewN ?_ _ | refine blk_drew ?_ | refine blk_alloc ?_ _));exact BK290.out) hb);have n7_:=Aside0.mk (blk_below (g:=gb316) (o:=.cells #[.string t308,.int .i64 t309,.slice Ao64 t310.length co64,.slice Ao65 t313.length co65] 27 (0,0)) (by (with_reducible repeat (first | refine blk_drewN ?_ _ | refine blk_drew ?_ | refine blk_alloc ?_ _));refine blk_put (cs:=#[.string t308,.int .i64 t309,.slice Ao64 t310.length co64,.slice none 0 0]) ?_ 3 _ rfl;(with_reducible repeat (first | refine blk_drewN ?_ _ | refine blk_drew ?_ | refine blk_alloc ?_ _));refine blk_put (cs:=#[.string t308,.int .i64 t309,.slice none 0 0,.slice none 0 0]) ?_ 2 _ rfl;(with_reducible repeat (first | refine blk_drewN ?_ _ | refine blk_drew ?_ | refine blk_alloc ?_ _));refine blk_put (cs:=#[.string t308,.int .i64 0,.slice none 0 0,.slice none 0 0]) ?_ 1 _ rfl;(with_reducible repeat (first | refine blk_drewN ?_ _ | refine blk_drew ?_ | refine blk_alloc ?_ _));refine blk_put (cs:=#[.string (⟨#[]⟩ : ByteArray),.int .i64 0,.slice none 0 0,.slice none 0 0]) ?_ 0 _ rfl;(with_reducible repeat (first | refine blk_drewN ?_ _ | refine blk_drew ?_ | refine blk_alloc ?_ _));exact BK316.out) hb);have n8_:=Aside0.mk (below_step (by repeat (first | (with_reducible first | exact HB.out | apply below_alloc | apply pw_below_drewN | apply below_drew1 | refine below_set ?_ GE290.out | refine below_set ?_ GE316.out) | exact HB.out)) hb);clear HO295;clear HO300;clear HO303;clear HO307;clear HO312;clear HO315;clear BK290;clear BK316;clear HB;have HO295:=n0_;have HO300:=n1_;have HO303:=n2_;have HO307:=n3_;have HO312:=n4_;have HO315:=n5_;have BK290:=n6_;have BK316:=n7_;have HB:=n8_;clear n0_ n1_ n2_ n3_ n4_ n5_ n6_ n7_ n8_;(try clear hb);(try clear hb2);(try clear hk);(try clear hi)) | ((with_reducible refine gate_callee (f:=21) rfl ?_);refine goesL_ (some 37) rfl rfl Try.func21 (by kernel_rfl) rfl #[.slice A0 l0.length c0] rfl (by (try simp only [List.map_toArray,List.map_cons,List.map_nil]);first | done | rfl | (simp only [List.length_drop,List.length_take];rfl)) ?_;(with_reducible refine (laws_toRecordSS.calls k _ _ l0 t318 _ ?side1 ?side2 A41.out).mono ?_);(case side1 => repeat (first | exact (Kd.C_below HR0.out HB.out) | (with_reducible refine Kd.C_alloc ?_ _) | (with_reducible refine Kd.C_drewN ?_ _) | (with_reducible refine Kd.C_drew ?_)));(case side2 => exact HC0.out);rintro e w68 ⟨v319,rfl,ho0,hb⟩;refine ⟨_,rfl,?_⟩;have n0_:=Aside0.mk (Kd.R_elder' (Up.Rup HO295) (Kd.R_base ho0) hb);have n1_:=Up.RB HO300 hb;have n2_:=Up.RB HO303 hb;have n3_:=Aside0.mk (Kd.R_elder' (Up.Rup HO307) (Kd.R_base ho0) hb);have n4_:=Up.RB HO312 hb;have n5_:=Up.RB HO315 hb;have n6_:=Aside0.mk (Kd.R_lower (Kd.R_new' (Kd.R_new' ho0 (Kd.R_lt (Up.Rup HO295))) (Kd.R_lt (Up.Rup HO307))) (below_size (by repeat (first | (with_reducible first | exact HB.out | apply below_alloc | apply pw_below_drewN | apply below_drew1 | refine below_set ?_ GE290.out | refine below_set ?_ GE316.out) | exact HB.out))));have n7_:=Up.KB BK290 hb;have n8_:=Up.KB BK316 hb;have n9_:=Aside0.mk (below_step (by repeat (first | (with_reducible first | exact HB.out | apply below_alloc | apply pw_below_drewN | apply below_drew1 | refine below_set ?_ GE290.out | refine below_set ?_ GE316.out) | exact HB.out)) hb);clear HO295;clear HO300;clear HO303;clear HO307;clear HO312;clear HO315;clear BK290;clear BK316;clear HB;have HO295:=n0_;have HO300:=n1_;have HO303:=n2_;have HO307:=n3_;have HO312:=n4_;have HO315:=n5_;have HO320:=n6_;have BK290:=n7_;have BK316:=n8_;have HB:=n9_;clear n0_ n1_ n2_ n3_ n4_ n5_ n6_ n7_ n8_ n9_;(try clear hb);(try clear hb2);(try clear hk);(try clear hi);(try clear ho0);obtain ⟨Ao69,co69,eo69⟩:=Kd.R_slice HO320.out;subst eo69) | ((with_reducible refine gate_callee (f:=23) rfl ?_);refine goesL_ (some 38) rfl rfl Try.func23 (by kernel_rfl) rfl #[.slice Ao66 t305.length co66,.slice Ao69 t318.length co69] rfl (by (try simp only [List.map_toArray,List.map_cons,List.map_nil]);first | done | rfl | (simp only [List.length_drop,List.length_take];rfl)) ?_;(with_reducible refine (laws_eqRecordSS.calls k _ _ t305 _ _ t318 true _ ?side1 ?side2 ?side3 ?side4 A42.out).mono ?_);(case side1 => repeat (first | exact (Kd.R_reads' HO307.out).2.2 | (with_reducible refine Kd.C_alloc ?_ _) | (with_reducible refine Kd.C_drewN ?_ _) | (with_reducible refine Kd.C_drew ?_)));(case side2 => exact (Kd.R_reads' HO307.out).2.1);(case side3 => repeat (first | exact (Kd.R_reads' HO320.out).2.2 | (with_reducible refine Kd.C_alloc ?_ _) | (with_reducible refine Kd.C_drewN ?_ _) | (with_reducible refine Kd.C_drew ?_)));(case side4 => exact (Kd.R_reads' HO320.out).2.1);rintro e w70 ⟨rfl,hb⟩;refine ⟨_,rfl,?_⟩;have n0_:=Up.RB HO295 hb;have n1_:=Up.RB HO300 hb;have n2_:=Up.RB HO303 hb;have n3_:=Up.RB HO307 hb;have n4_:=Up.RB HO312 hb;have n5_:=Up.RB HO315 hb;have n6_:=Up.RB HO320 hb;have n7_:=Up.KB BK290 hb;have n8_:=Up.KB BK316 hb;have n9_:=Aside0.mk (below_step (by repeat (first | (with_reducible first | exact HB.out | apply below_alloc | apply pw_below_drewN | apply below_drew1 | refine below_set ?_ GE290.out | refine below_set ?_ GE316.out) | exact HB.out)) hb);clear HO295;clear HO300;clear HO303;clear HO307;clear HO312;clear HO315;clear HO320;clear BK290;clear BK316;clear HB;have HO295:=n0_;have HO300:=n1_;have HO303:=n2_;have HO307:=n3_;have HO312:=n4_;have HO315:=n5_;have HO320:=n6_;have BK290:=n7_;have BK316:=n8_;have HB:=n9_;clear n0_ n1_ n2_ n3_ n4_ n5_ n6_ n7_ n8_ n9_;(try clear hb);(try clear hb2);(try clear hk);(try clear hi)))
      have n0_:=Aside0.mk (Kd.R_drew HO295.out)
      have n1_:=Aside0.mk (Kd.R_drew HO300.out)
      have n2_:=Aside0.mk (Kd.R_drew HO303.out)
      have n3_:=Aside0.mk (Kd.R_drew HO307.out)
      have n4_:=Aside0.mk (Kd.R_drew HO312.out)
      have n5_:=Aside0.mk (Kd.R_drew HO315.out)
      have n6_:=Aside0.mk (Kd.R_drew HO320.out)
      have n7_:=Aside0.mk (blk_drew BK290.out)
      have n8_:=Aside0.mk (blk_drew BK316.out)
      have n9_:=Aside0.mk (below_drew1 HB.out)
      clear HO295
      clear HO300
      clear HO303
      clear HO307
      clear HO312
      clear HO315
      clear HO320
      clear BK290
      clear BK316
      clear HB
      have HO295:=n0_
      have HO300:=n1_
      have HO303:=n2_
      have HO307:=n3_
      have HO312:=n4_
      have HO315:=n5_
      have HO320:=n6_
      have BK290:=n7_
      have BK316:=n8_
      have HB:=n9_
      clear n0_ n1_ n2_ n3_ n4_ n5_ n6_ n7_ n8_ n9_
      refine start_ (n:=5) (S:=fun w' => w'.cell? ⟨gb316,0,none⟩ = some (.string t308) ∧ w'.cell? ⟨gb316,1,none⟩ = some (.int .i64 t309) ∧ w'.cell? ⟨gb316,2,none⟩ = some (.slice Ao64 t310.length co64) ∧ w'.cell? ⟨gb316,3,none⟩ = some (.slice Ao65 t313.length co65) ∧ w'.cell? ⟨gb290,0,none⟩ = some (.string a1_0) ∧ w'.cell? ⟨gb290,1,none⟩ = some (.int .i64 a1_1) ∧ w'.cell? ⟨gb290,2,none⟩ = some (.slice A1_2 l1_2.length c1_2) ∧ w'.cell? ⟨gb290,3,none⟩ = some (.slice A1_3 l1_3.length c1_3)) (ds:=[]) #[false,false,false,false,false] (by kernel_rfl) rfl rfl ⟨(blk_cell BK316.out 0).trans rfl,(blk_cell BK316.out 1).trans rfl,(blk_cell BK316.out 2).trans rfl,(blk_cell BK316.out 3).trans rfl,(blk_cell BK290.out 0).trans rfl,(blk_cell BK290.out 1).trans rfl,(blk_cell BK290.out 2).trans rfl,(blk_cell BK290.out 3).trans rfl⟩ (fun hHeld => ?_)
      generalize w70.drew = w71 at HO295 HO300 HO303 HO307 HO312 HO315 HO320 BK290 BK316 HB hHeld ⊢
      refine take_ (i:=0) (N:=some 40) (v:=?_) (a':=?_) #[true,false,false,false,false] rfl rfl (by kernel_rfl) (fun _ _ _ h => h) (Or.inl ⟨by rfl,?_⟩) hHeld ?_ ?_
      rotate_left
      ·rintro w' ⟨s0,s1,s2,s3,s4,s5,s6,s7⟩
       go_simp
       with_reducible rfl
      rotate_left
      ·simp only [Act.put,List.setIfInBounds_toArray,List.set_cons_zero,List.set_cons_succ,i64_w,i32_w]
       rfl
      refine take_ (i:=1) (N:=some 41) (v:=?_) (a':=?_) #[true,true,false,false,false] rfl rfl (by kernel_rfl) (fun _ _ _ h => h) (Or.inl ⟨by rfl,?_⟩) hHeld ?_ ?_
      rotate_left
      ·rintro w' ⟨s0,s1,s2,s3,s4,s5,s6,s7⟩
       go_simp
       with_reducible rfl
      rotate_left
      ·simp only [Act.put,List.setIfInBounds_toArray,List.set_cons_zero,List.set_cons_succ,i64_w,i32_w]
       rfl
      refine one_ (i:=2) (N:=some 42) #[true,true,true,false,false] rfl rfl (by kernel_rfl) (by decide) (fun K hK => ?_)
      refine goes_ Try.func22 (by kernel_rfl) rfl #[.agg #[.string a1_0,.int .i64 a1_1,.slice A1_2 l1_2.length c1_2,.slice A1_3 l1_3.length c1_3]] (by rfl) rfl rfl (by (try simp only [List.map_toArray,List.map_cons,List.map_nil]);first | done | rfl | (simp only [List.length_drop,List.length_take];rfl)) ?_
      with_reducible refine (laws_toValue.calls k a1_0 a1_1 _ _ l1_2 _ _ l1_3 t322 t323 t324 t327 _ ?side1 ?side2 ?side3 ?side4 A44.out).mono ?_
      (case side1 => repeat (first | exact (Kd.C_below HR1_2.out HB.out) | (with_reducible refine Kd.C_alloc ?_ _) | (with_reducible refine Kd.C_drewN ?_ _) | (with_reducible refine Kd.C_drew ?_)))
      (case side2 => exact HC1_2.out)
      (case side3 => repeat (first | exact (Kd.C_below HR1_3.out HB.out) | (with_reducible refine Kd.C_alloc ?_ _) | (with_reducible refine Kd.C_drewN ?_ _) | (with_reducible refine Kd.C_drew ?_)))
      (case side4 => exact HC1_3.out)
      rintro e w72 ⟨v325,v328,rfl,ho0,ho1,hb⟩
      refine ⟨_,rfl,?_⟩
      have n0_:=Up.RB HO295 hb
      have n1_:=Aside0.mk (Kd.R_mono (Kd.R_told (Kd.R_told (Kd.R_old (Up.Rup HO300) hb) (Kd.R_base ho0)) (Kd.R_base ho1)) (fun _ h_ => h_.1))
      have n2_:=Aside0.mk (Kd.R_elder' (Up.Rup HO303) (Kd.R_base ho1) hb)
      have n3_:=Up.RB HO307 hb
      have n4_:=Aside0.mk (Kd.R_mono (Kd.R_told (Kd.R_told (Kd.R_old (Up.Rup HO312) hb) (Kd.R_base ho0)) (Kd.R_base ho1)) (fun _ h_ => h_.1))
      have n5_:=Aside0.mk (Kd.R_elder' (Up.Rup HO315) (Kd.R_base ho1) hb)
      have n6_:=Up.RB HO320 hb
      have n7_:=Aside0.mk (Kd.R_lower (Kd.R_newB (Kd.R_new' (Kd.R_new' (Kd.R_new' (Kd.R_new' ho0 (Kd.R_lt (Up.Rup HO300))) (Kd.R_lt (Up.Rup HO303))) (Kd.R_lt (Up.Rup HO312))) (Kd.R_lt (Up.Rup HO315))) (g:=gb316) (o:=.cells #[.string t308,.int .i64 t309,.slice Ao64 t310.length co64,.slice Ao65 t313.length co65] 27 (0,0)) (Up.Kup BK316)) (below_size (by repeat (first | (with_reducible first | exact HB.out | apply below_alloc | apply pw_below_drewN | apply below_drew1 | refine below_set ?_ GE290.out | refine below_set ?_ GE316.out) | exact HB.out))))
      have n8_:=Aside0.mk (Kd.R_lower (Kd.R_new' (Kd.R_new' ho1 (Kd.R_lt (Up.Rup HO303))) (Kd.R_lt (Up.Rup HO315))) (below_size (by repeat (first | (with_reducible first | exact HB.out | apply below_alloc | apply pw_below_drewN | apply below_drew1 | refine below_set ?_ GE290.out | refine below_set ?_ GE316.out) | exact HB.out))))
      have n9_:=Up.KB BK290 hb
      have n10_:=Up.KB BK316 hb
      have n11_:=Aside0.mk (below_step (by repeat (first | (with_reducible first | exact HB.out | apply below_alloc | apply pw_below_drewN | apply below_drew1 | refine below_set ?_ GE290.out | refine below_set ?_ GE316.out) | exact HB.out)) hb)
      clear HO295
      clear HO300
      clear HO303
      clear HO307
      clear HO312
      clear HO315
      clear HO320
      clear BK290
      clear BK316
      clear HB
      have HO295:=n0_
      have HO300:=n1_
      have HO303:=n2_
      have HO307:=n3_
      have HO312:=n4_
      have HO315:=n5_
      have HO320:=n6_
      have HO326:=n7_
      have HO329:=n8_
      have BK290:=n9_
      have BK316:=n10_
      have HB:=n11_
      clear n0_ n1_ n2_ n3_ n4_ n5_ n6_ n7_ n8_ n9_ n10_ n11_
      (try clear hb)
      (try clear hb2)
      (try clear hk)
      (try clear hi)
      (try clear ho0)
      (try clear ho1)
      obtain ⟨Ao73,co73,eo73⟩:=Kd.R_slice HO326.out
      (first | subst eo73 | (injection eo73 with f1_ f2_ f3_;have f4_:=f1_.symm;have f5_:=f3_.symm;clear f1_ f2_ f3_;subst f4_;subst f5_))
      obtain ⟨Ao74,co74,eo74⟩:=Kd.R_slice HO329.out
      (first | subst eo74 | (injection eo74 with f1_ f2_ f3_;have f4_:=f1_.symm;have f5_:=f3_.symm;clear f1_ f2_ f3_;subst f4_;subst f5_))
      refine hK.out _ _ ⟨(blk_cell BK316.out 0).trans rfl,(blk_cell BK316.out 1).trans rfl,(blk_cell BK316.out 2).trans rfl,(blk_cell BK316.out 3).trans rfl,(blk_cell BK290.out 0).trans rfl,(blk_cell BK290.out 1).trans rfl,(blk_cell BK290.out 2).trans rfl,(blk_cell BK290.out 3).trans rfl⟩ (fun hHeld => ?_)
      clear hK K
      refine norm_ (a':=?_) ?_ ?_
      rotate_left
      ·show Act.put _ (some 42) _ = _
       simp only [Act.put,List.setIfInBounds_toArray,List.set_cons_zero,List.set_cons_succ,i64_w,i32_w]
       rfl
      refine one_ (i:=3) (N:=some 43) #[true,true,true,true,false] rfl rfl (by kernel_rfl) (by decide) (fun K hK => ?_)
      refine goes_ Try.func24 (by kernel_rfl) rfl #[.agg #[.string t308,.int .i64 t309,.slice Ao64 t310.length co64,.slice Ao65 t313.length co65],.agg #[.string t322,.int .i64 t323,.slice Ao73 t324.length co73,.slice Ao74 t327.length co74]] (by rfl) rfl rfl (by (try simp only [List.map_toArray,List.map_cons,List.map_nil]);first | done | rfl | (simp only [List.length_drop,List.length_take];rfl)) ?_
      with_reducible refine (laws_eqValue.calls k t308 t309 _ _ t310 _ _ t313 t322 t323 _ _ t324 _ _ t327 true _ ?side1 ?side2 ?side3 ?side4 ?side5 ?side6 ?side7 ?side8 A45.out).mono ?_
      (case side1 => repeat (first | exact (Kd.R_reads' HO312.out).2.2 | (with_reducible refine Kd.C_alloc ?_ _) | (with_reducible refine Kd.C_drewN ?_ _) | (with_reducible refine Kd.C_drew ?_)))
      (case side2 => exact (Kd.R_reads' HO312.out).2.1)
      (case side3 => repeat (first | exact (Kd.R_reads' HO315.out).2.2 | (with_reducible refine Kd.C_alloc ?_ _) | (with_reducible refine Kd.C_drewN ?_ _) | (with_reducible refine Kd.C_drew ?_)))
      (case side4 => exact (Kd.R_reads' HO315.out).2.1)
      (case side5 => repeat (first | exact (Kd.R_reads' HO326.out).2.2 | (with_reducible refine Kd.C_alloc ?_ _) | (with_reducible refine Kd.C_drewN ?_ _) | (with_reducible refine Kd.C_drew ?_)))
      (case side6 => exact (Kd.R_reads' HO326.out).2.1)
      (case side7 => repeat (first | exact (Kd.R_reads' HO329.out).2.2 | (with_reducible refine Kd.C_alloc ?_ _) | (with_reducible refine Kd.C_drewN ?_ _) | (with_reducible refine Kd.C_drew ?_)))
      (case side8 => exact (Kd.R_reads' HO329.out).2.1)
      rintro e w75 ⟨rfl,hb⟩
      refine ⟨_,rfl,?_⟩
      have n0_:=Up.RB HO295 hb
      have n1_:=Up.RB HO300 hb
      have n2_:=Up.RB HO303 hb
      have n3_:=Up.RB HO307 hb
      have n4_:=Up.RB HO312 hb
      have n5_:=Up.RB HO315 hb
      have n6_:=Up.RB HO320 hb
      have n7_:=Up.RB HO326 hb
      have n8_:=Up.RB HO329 hb
      have n9_:=Up.KB BK290 hb
      have n10_:=Up.KB BK316 hb
      have n11_:=Aside0.mk (below_step (by repeat (first | (with_reducible first | exact HB.out | apply below_alloc | apply pw_below_drewN | apply below_drew1 | refine below_set ?_ GE290.out | refine below_set ?_ GE316.out) | exact HB.out)) hb)
      clear HO295
      clear HO300
      clear HO303
      clear HO307
      clear HO312
      clear HO315
      clear HO320
      clear HO326
      clear HO329
      clear BK290
      clear BK316
      clear HB
      have HO295:=n0_
      have HO300:=n1_
      have HO303:=n2_
      have HO307:=n3_
      have HO312:=n4_
      have HO315:=n5_
      have HO320:=n6_
      have HO326:=n7_
      have HO329:=n8_
      have BK290:=n9_
      have BK316:=n10_
      have HB:=n11_
      clear n0_ n1_ n2_ n3_ n4_ n5_ n6_ n7_ n8_ n9_ n10_ n11_
      (try clear hb)
      (try clear hb2)
      (try clear hk)
      (try clear hi)
      refine hK.out _ _ ⟨(blk_cell BK316.out 0).trans rfl,(blk_cell BK316.out 1).trans rfl,(blk_cell BK316.out 2).trans rfl,(blk_cell BK316.out 3).trans rfl,(blk_cell BK290.out 0).trans rfl,(blk_cell BK290.out 1).trans rfl,(blk_cell BK290.out 2).trans rfl,(blk_cell BK290.out 3).trans rfl⟩ (fun hHeld => ?_)
      clear hK K
      refine norm_ (a':=?_) ?_ ?_
      rotate_left
      ·show Act.put _ (some 43) _ = _
       simp only [Act.put,List.setIfInBounds_toArray,List.set_cons_zero,List.set_cons_succ,i64_w,i32_w]
       rfl
      refine pure_ (i:=4) (N:=some 44) (v:=?_) (a':=?_) #[true,true,true,true,true] rfl rfl (by kernel_rfl) (fun _ _ _ h => h) (Or.inl ⟨by rfl,?_⟩) ?_ ?_
      rotate_left
      ·intro w'
       go_simp
       with_reducible rfl
      rotate_left
      ·simp only [Act.put,List.setIfInBounds_toArray,List.set_cons_zero,List.set_cons_succ,i64_w,i32_w]
       rfl
      refine done_ (by kernel_rfl) ?_
      try go_wp2
      go_ret
      exact ⟨by first | rfl | (simp [errW_none,errW_some] <;> rfl) | (simp [*,errW_none,errW_some] <;> rfl),by repeat (first | (with_reducible first | exact HB.out | apply below_alloc | apply pw_below_drewN | apply below_drew1 | refine below_set ?_ GE290.out | refine below_set ?_ GE316.out) | exact HB.out)⟩
     ·replace c46:=Bool.eq_false_iff.mpr c46
      subst c46
      have H1 : (some false) = some r:=by rw [if_neg (show ¬ (false = true) by decide)] at H;exact H
      clear H
      have H:=H1
      clear H1
      obtain rfl:=Option.some.inj H
      go_enter Try.func5,Try.ntmps5
      try go_wp2_with (first | ((with_reducible refine gate_dst (N:=3) rfl ?_);refine box_event ?hg (N:=3) ?hd (cs:=#[.string a1_0,.int .i64 a1_1,.slice A1_2 l1_2.length c1_2,.slice A1_3 l1_3.length c1_3]) (t:=39) ?hr ?_;(case hd => rfl);(case hg => rfl);(case hr => first | (go_simp;done) | (go_simp;rfl));intro gb290 hg w76 hbox hb;have n0_:=Up.BB HB hb;have n1_:=Aside0.mk (hbox);have n2_:=Aside0.mk ((by rw [hg];exact (below_size (Up.Bup HB)) : w.heap.size ≤ gb290));have n3_:=Aside0.mk ((by rw [hg];exact (below_size (Up.Bup HB)) : w.heap.size ≤ gb290));clear HB;have HB:=n0_;have BK290:=n1_;have GW290:=n2_;have GE290:=n3_;clear n0_ n1_ n2_ n3_;clear hb hbox hg) | ((with_reducible refine gate_callee (f:=18) rfl ?_);refine goesL_ (some 12) rfl rfl Try.func18 (by kernel_rfl) rfl #[.slice A0 l0.length c0,.int .i64 1048576] rfl (by (try simp only [List.map_toArray,List.map_cons,List.map_nil]);first | done | rfl | (simp only [List.length_drop,List.length_take];rfl)) ?_;(with_reducible refine (laws_szRecordSS.calls k _ _ l0 1048576 t291 _ ?side1 ?side2 A3.out).mono ?_);(case side1 => repeat (first | exact (Kd.C_below HR0.out HB.out) | (with_reducible refine Kd.C_alloc ?_ _) | (with_reducible refine Kd.C_drewN ?_ _) | (with_reducible refine Kd.C_drew ?_)));(case side2 => exact HC0.out);rintro e w77 ⟨rfl,hb⟩;refine ⟨_,rfl,?_⟩;have n0_:=Up.KB BK290 hb;have n1_:=Aside0.mk (below_step (by repeat (first | (with_reducible first | exact HB.out | apply below_alloc | apply pw_below_drewN | apply below_drew1 | refine below_set ?_ GE290.out) | exact HB.out)) hb);clear BK290;clear HB;have BK290:=n0_;have HB:=n1_;clear n0_ n1_;(try clear hb);(try clear hb2);(try clear hk);(try clear hi);have hcz78_0 : w77.cell? ⟨gb290,0,none⟩ = some (.string a1_0):=(blk_cell BK290.out 0).trans rfl;have hcz78_1 : w77.cell? ⟨gb290,1,none⟩ = some (.int .i64 a1_1):=(blk_cell BK290.out 1).trans rfl;have hcz78_2 : w77.cell? ⟨gb290,2,none⟩ = some (.slice A1_2 l1_2.length c1_2):=(blk_cell BK290.out 2).trans rfl;have hcz78_3 : w77.cell? ⟨gb290,3,none⟩ = some (.slice A1_3 l1_3.length c1_3):=(blk_cell BK290.out 3).trans rfl;have hfz78_0:=blk_frozen BK290.out 0;have hfz78_1:=blk_frozen BK290.out 1;have hfz78_2:=blk_frozen BK290.out 2;have hfz78_3:=blk_frozen BK290.out 3) | ((with_reducible refine gate_callee (f:=19) rfl ?_);refine goesL_ (some 17) rfl rfl Try.func19 (by kernel_rfl) rfl #[.agg #[.string a1_0,.int .i64 a1_1,.slice A1_2 l1_2.length c1_2,.slice A1_3 l1_3.length c1_3],.int .i64 t291] rfl (by (try simp only [List.map_toArray,List.map_cons,List.map_nil]);first | done | rfl | (simp only [List.length_drop,List.length_take];rfl)) ?_;(with_reducible refine (laws_szValue.calls k a1_0 a1_1 _ _ l1_2 _ _ l1_3 t291 t292 _ ?side1 ?side2 ?side3 ?side4 A7.out).mono ?_);(case side1 => repeat (first | exact (Kd.C_below HR1_2.out HB.out) | (with_reducible refine Kd.C_alloc ?_ _) | (with_reducible refine Kd.C_drewN ?_ _) | (with_reducible refine Kd.C_drew ?_)));(case side2 => exact HC1_2.out);(case side3 => repeat (first | exact (Kd.C_below HR1_3.out HB.out) | (with_reducible refine Kd.C_alloc ?_ _) | (with_reducible refine Kd.C_drewN ?_ _) | (with_reducible refine Kd.C_drew ?_)));(case side4 => exact HC1_3.out);rintro e w79 ⟨rfl,hb⟩;refine ⟨_,rfl,?_⟩;have n0_:=Up.KB BK290 hb;have n1_:=Aside0.mk (below_step (by repeat (first | (with_reducible first | exact HB.out | apply below_alloc | apply pw_below_drewN | apply below_drew1 | refine below_set ?_ GE290.out) | exact HB.out)) hb);clear BK290;clear HB;have BK290:=n0_;have HB:=n1_;clear n0_ n1_;(try clear hb);(try clear hb2);(try clear hk);(try clear hi)))
      have n0_:=Aside0.mk (blk_drew BK290.out)
      have n1_:=Aside0.mk (below_drew1 HB.out)
      clear BK290
      clear HB
      have BK290:=n0_
      have HB:=n1_
      clear n0_ n1_
      refine start_ (n:=6) (S:=fun w' => w'.cell? ⟨gb290,0,none⟩ = some (.string a1_0) ∧ w'.cell? ⟨gb290,1,none⟩ = some (.int .i64 a1_1) ∧ w'.cell? ⟨gb290,2,none⟩ = some (.slice A1_2 l1_2.length c1_2) ∧ w'.cell? ⟨gb290,3,none⟩ = some (.slice A1_3 l1_3.length c1_3)) (ds:=[]) #[false,false,false,false,false,false] (by kernel_rfl) rfl rfl ⟨(blk_cell BK290.out 0).trans rfl,(blk_cell BK290.out 1).trans rfl,(blk_cell BK290.out 2).trans rfl,(blk_cell BK290.out 3).trans rfl⟩ (fun hHeld => ?_)
      generalize w79.drew = w80 at BK290 HB hHeld ⊢
      refine pure_ (i:=0) (N:=some 20) (v:=?_) (a':=?_) #[true,false,false,false,false,false] rfl rfl (by kernel_rfl) (fun _ _ _ h => h) (Or.inl ⟨by rfl,?_⟩) ?_ ?_
      rotate_left
      ·intro w'
       go_simp
       with_reducible rfl
      rotate_left
      ·simp only [Act.put,List.setIfInBounds_toArray,List.set_cons_zero,List.set_cons_succ,i64_w,i32_w]
       rfl
      refine take_ (i:=2) (N:=some 22) (v:=?_) (a':=?_) #[true,false,true,false,false,false] rfl rfl (by kernel_rfl) (fun _ _ _ h => h) (Or.inl ⟨by rfl,?_⟩) hHeld ?_ ?_
      rotate_left
      ·rintro w' ⟨s0,s1,s2,s3⟩
       go_simp
       with_reducible rfl
      rotate_left
      ·simp only [Act.put,List.setIfInBounds_toArray,List.set_cons_zero,List.set_cons_succ,i64_w,i32_w]
       rfl
      refine one_ (i:=1) (N:=some 21) #[true,true,true,false,false,false] rfl rfl (by kernel_rfl) (by decide) (fun K hK => ?_)
      refine goes_ Try.func21 (by kernel_rfl) rfl #[.slice A0 l0.length c0] (by rfl) rfl rfl (by (try simp only [List.map_toArray,List.map_cons,List.map_nil]);first | done | rfl | (simp only [List.length_drop,List.length_take];rfl)) ?_
      with_reducible refine (laws_toRecordSS.calls k _ _ l0 t293 _ ?side1 ?side2 A13.out).mono ?_
      (case side1 => repeat (first | exact (Kd.C_below HR0.out HB.out) | (with_reducible refine Kd.C_alloc ?_ _) | (with_reducible refine Kd.C_drewN ?_ _) | (with_reducible refine Kd.C_drew ?_)))
      (case side2 => exact HC0.out)
      rintro e w81 ⟨v294,rfl,ho0,hb⟩
      refine ⟨_,rfl,?_⟩
      have n0_:=Aside0.mk (Kd.R_lower ho0 (below_size (by repeat (first | (with_reducible first | exact HB.out | apply below_alloc | apply pw_below_drewN | apply below_drew1 | refine below_set ?_ GE290.out) | exact HB.out))))
      have n1_:=Up.KB BK290 hb
      have n2_:=Aside0.mk (below_step (by repeat (first | (with_reducible first | exact HB.out | apply below_alloc | apply pw_below_drewN | apply below_drew1 | refine below_set ?_ GE290.out) | exact HB.out)) hb)
      clear BK290
      clear HB
      have HO295:=n0_
      have BK290:=n1_
      have HB:=n2_
      clear n0_ n1_ n2_
      (try clear hb)
      (try clear hb2)
      (try clear hk)
      (try clear hi)
      (try clear ho0)
      refine hK.out _ _ ⟨(blk_cell BK290.out 0).trans rfl,(blk_cell BK290.out 1).trans rfl,(blk_cell BK290.out 2).trans rfl,(blk_cell BK290.out 3).trans rfl⟩ (fun hHeld => ?_)
      clear hK K
      refine norm_ (a':=?_) ?_ ?_
      rotate_left
      ·show Act.put _ (some 21) _ = _
       simp only [Act.put,List.setIfInBounds_toArray,List.set_cons_zero,List.set_cons_succ,i64_w,i32_w]
       rfl
      refine one_ (i:=3) (N:=some 23) #[true,true,true,true,false,false] rfl rfl (by kernel_rfl) (by decide) (fun K hK => ?_)
      refine goes_ Try.func22 (by kernel_rfl) rfl #[.agg #[.string a1_0,.int .i64 a1_1,.slice A1_2 l1_2.length c1_2,.slice A1_3 l1_3.length c1_3]] (by rfl) rfl rfl (by (try simp only [List.map_toArray,List.map_cons,List.map_nil]);first | done | rfl | (simp only [List.length_drop,List.length_take];rfl)) ?_
      with_reducible refine (laws_toValue.calls k a1_0 a1_1 _ _ l1_2 _ _ l1_3 t296 t297 t298 t301 _ ?side1 ?side2 ?side3 ?side4 A14.out).mono ?_
      (case side1 => repeat (first | exact (Kd.C_below HR1_2.out HB.out) | (with_reducible refine Kd.C_alloc ?_ _) | (with_reducible refine Kd.C_drewN ?_ _) | (with_reducible refine Kd.C_drew ?_)))
      (case side2 => exact HC1_2.out)
      (case side3 => repeat (first | exact (Kd.C_below HR1_3.out HB.out) | (with_reducible refine Kd.C_alloc ?_ _) | (with_reducible refine Kd.C_drewN ?_ _) | (with_reducible refine Kd.C_drew ?_)))
      (case side4 => exact HC1_3.out)
      rintro e w82 ⟨v299,v302,rfl,ho0,ho1,hb⟩
      refine ⟨_,rfl,?_⟩
      have n0_:=Up.RB HO295 hb
      have n1_:=Aside0.mk (Kd.R_lower ho0 (below_size (by repeat (first | (with_reducible first | exact HB.out | apply below_alloc | apply pw_below_drewN | apply below_drew1 | refine below_set ?_ GE290.out) | exact HB.out))))
      have n2_:=Aside0.mk (Kd.R_lower ho1 (below_size (by repeat (first | (with_reducible first | exact HB.out | apply below_alloc | apply pw_below_drewN | apply below_drew1 | refine below_set ?_ GE290.out) | exact HB.out))))
      have n3_:=Up.KB BK290 hb
      have n4_:=Aside0.mk (below_step (by repeat (first | (with_reducible first | exact HB.out | apply below_alloc | apply pw_below_drewN | apply below_drew1 | refine below_set ?_ GE290.out) | exact HB.out)) hb)
      clear HO295
      clear BK290
      clear HB
      have HO295:=n0_
      have HO300:=n1_
      have HO303:=n2_
      have BK290:=n3_
      have HB:=n4_
      clear n0_ n1_ n2_ n3_ n4_
      (try clear hb)
      (try clear hb2)
      (try clear hk)
      (try clear hi)
      (try clear ho0)
      (try clear ho1)
      obtain ⟨Ao83,co83,eo83⟩:=Kd.R_slice HO295.out
      (first | subst eo83 | (injection eo83 with f1_ f2_ f3_;have f4_:=f1_.symm;have f5_:=f3_.symm;clear f1_ f2_ f3_;subst f4_;subst f5_))
      obtain ⟨Ao84,co84,eo84⟩:=Kd.R_slice HO300.out
      (first | subst eo84 | (injection eo84 with f1_ f2_ f3_;have f4_:=f1_.symm;have f5_:=f3_.symm;clear f1_ f2_ f3_;subst f4_;subst f5_))
      obtain ⟨Ao85,co85,eo85⟩:=Kd.R_slice HO303.out
      (first | subst eo85 | (injection eo85 with f1_ f2_ f3_;have f4_:=f1_.symm;have f5_:=f3_.symm;clear f1_ f2_ f3_;subst f4_;subst f5_))
      refine hK.out _ _ ⟨(blk_cell BK290.out 0).trans rfl,(blk_cell BK290.out 1).trans rfl,(blk_cell BK290.out 2).trans rfl,(blk_cell BK290.out 3).trans rfl⟩ (fun hHeld => ?_)
      clear hK K
      refine norm_ (a':=?_) ?_ ?_
      rotate_left
      ·show Act.put _ (some 23) _ = _
       simp only [Act.put,List.setIfInBounds_toArray,List.set_cons_zero,List.set_cons_succ,i64_w,i32_w]
       rfl
      refine one_ (i:=4) (N:=some 24) #[true,true,true,true,true,false] rfl rfl (by kernel_rfl) (by decide) (fun K hK => ?_)
      refine goes_ Try.func20 (by kernel_rfl) rfl #[.slice Ao83 t293.length co83,.agg #[.string t296,.int .i64 t297,.slice Ao84 t298.length co84,.slice Ao85 t301.length co85]] (by rfl) rfl rfl (by (try simp only [List.map_toArray,List.map_cons,List.map_nil]);first | done | rfl | (simp only [List.length_drop,List.length_take];rfl)) ?_
      with_reducible refine (spec_ValueOk.calls k _ _ t293 t296 t297 _ _ t298 _ _ t301 t304 _ ?side1 ?side2 ?side3 ?side4 ?side5 ?side6 A15.out).mono ?_
      (case side1 => repeat (first | exact (Kd.R_reads' HO295.out).2.2 | (with_reducible refine Kd.C_alloc ?_ _) | (with_reducible refine Kd.C_drewN ?_ _) | (with_reducible refine Kd.C_drew ?_)))
      (case side2 => exact (Kd.R_reads' HO295.out).2.1)
      (case side3 => repeat (first | exact (Kd.R_reads' HO300.out).2.2 | (with_reducible refine Kd.C_alloc ?_ _) | (with_reducible refine Kd.C_drewN ?_ _) | (with_reducible refine Kd.C_drew ?_)))
      (case side4 => exact (Kd.R_reads' HO300.out).2.1)
      (case side5 => repeat (first | exact (Kd.R_reads' HO303.out).2.2 | (with_reducible refine Kd.C_alloc ?_ _) | (with_reducible refine Kd.C_drewN ?_ _) | (with_reducible refine Kd.C_drew ?_)))
      (case side6 => exact (Kd.R_reads' HO303.out).2.1)
      rintro e w86 ⟨rfl,hb⟩
      refine ⟨_,rfl,?_⟩
      have n0_:=Up.RB HO295 hb
      have n1_:=Up.RB HO300 hb
      have n2_:=Up.RB HO303 hb
      have n3_:=Up.KB BK290 hb
      have n4_:=Aside0.mk (below_step (by repeat (first | (with_reducible first | exact HB.out | apply below_alloc | apply pw_below_drewN | apply below_drew1 | refine below_set ?_ GE290.out) | exact HB.out)) hb)
      clear HO295
      clear HO300
      clear HO303
      clear BK290
      clear HB
      have HO295:=n0_
      have HO300:=n1_
      have HO303:=n2_
      have BK290:=n3_
      have HB:=n4_
      clear n0_ n1_ n2_ n3_ n4_
      (try clear hb)
      (try clear hb2)
      (try clear hk)
      (try clear hi)
      refine hK.out _ _ ⟨(blk_cell BK290.out 0).trans rfl,(blk_cell BK290.out 1).trans rfl,(blk_cell BK290.out 2).trans rfl,(blk_cell BK290.out 3).trans rfl⟩ (fun hHeld => ?_)
      clear hK K
      refine norm_ (a':=?_) ?_ ?_
      rotate_left
      ·show Act.put _ (some 24) _ = _
       simp only [Act.put,List.setIfInBounds_toArray,List.set_cons_zero,List.set_cons_succ,i64_w,i32_w]
       rfl
      refine pure_ (i:=5) (N:=some 6) (v:=?_) (a':=?_) #[true,true,true,true,true,true] rfl rfl (by kernel_rfl) (fun _ _ _ h => h) (Or.inl ⟨by rfl,?_⟩) ?_ ?_
      rotate_left
      ·intro w'
       go_simp
       with_reducible rfl
      rotate_left
      ·simp only [Act.put,List.setIfInBounds_toArray,List.set_cons_zero,List.set_cons_succ,i64_w,i32_w]
       rfl
      refine done_ (by kernel_rfl) ?_
      try go_wp2_with (first | ((with_reducible refine gate_callee (f:=21) rfl ?_);refine goesL_ (some 26) rfl rfl Try.func21 (by kernel_rfl) rfl #[.slice A0 l0.length c0] rfl (by (try simp only [List.map_toArray,List.map_cons,List.map_nil]);first | done | rfl | (simp only [List.length_drop,List.length_take];rfl)) ?_;(with_reducible refine (laws_toRecordSS.calls k _ _ l0 t305 _ ?side1 ?side2 A16.out).mono ?_);(case side1 => repeat (first | exact (Kd.C_below HR0.out HB.out) | (with_reducible refine Kd.C_alloc ?_ _) | (with_reducible refine Kd.C_drewN ?_ _) | (with_reducible refine Kd.C_drew ?_)));(case side2 => exact HC0.out);rintro e w87 ⟨v306,rfl,ho0,hb⟩;refine ⟨_,rfl,?_⟩;have n0_:=Aside0.mk (Kd.R_elder' (Up.Rup HO295) (Kd.R_base ho0) hb);have n1_:=Up.RB HO300 hb;have n2_:=Up.RB HO303 hb;have n3_:=Aside0.mk (Kd.R_lower (Kd.R_new' ho0 (Kd.R_lt (Up.Rup HO295))) (below_size (by repeat (first | (with_reducible first | exact HB.out | apply below_alloc | apply pw_below_drewN | apply below_drew1 | refine below_set ?_ GE290.out) | exact HB.out))));have n4_:=Up.KB BK290 hb;have n5_:=Aside0.mk (below_step (by repeat (first | (with_reducible first | exact HB.out | apply below_alloc | apply pw_below_drewN | apply below_drew1 | refine below_set ?_ GE290.out) | exact HB.out)) hb);clear HO295;clear HO300;clear HO303;clear BK290;clear HB;have HO295:=n0_;have HO300:=n1_;have HO303:=n2_;have HO307:=n3_;have BK290:=n4_;have HB:=n5_;clear n0_ n1_ n2_ n3_ n4_ n5_;(try clear hb);(try clear hb2);(try clear hk);(try clear hi);(try clear ho0);have hcz88_0 : w87.cell? ⟨gb290,0,none⟩ = some (.string a1_0):=(blk_cell BK290.out 0).trans rfl;have hcz88_1 : w87.cell? ⟨gb290,1,none⟩ = some (.int .i64 a1_1):=(blk_cell BK290.out 1).trans rfl;have hcz88_2 : w87.cell? ⟨gb290,2,none⟩ = some (.slice A1_2 l1_2.length c1_2):=(blk_cell BK290.out 2).trans rfl;have hcz88_3 : w87.cell? ⟨gb290,3,none⟩ = some (.slice A1_3 l1_3.length c1_3):=(blk_cell BK290.out 3).trans rfl;have hfz88_0:=blk_frozen BK290.out 0;have hfz88_1:=blk_frozen BK290.out 1;have hfz88_2:=blk_frozen BK290.out 2;have hfz88_3:=blk_frozen BK290.out 3) | ((with_reducible refine gate_callee (f:=22) rfl ?_);refine goesL_ (some 28) rfl rfl Try.func22 (by kernel_rfl) rfl #[.agg #[.string a1_0,.int .i64 a1_1,.slice A1_2 l1_2.length c1_2,.slice A1_3 l1_3.length c1_3]] rfl (by (try simp only [List.map_toArray,List.map_cons,List.map_nil]);first | done | rfl | (simp only [List.length_drop,List.length_take];rfl)) ?_;(with_reducible refine (laws_toValue.calls k a1_0 a1_1 _ _ l1_2 _ _ l1_3 t308 t309 t310 t313 _ ?side1 ?side2 ?side3 ?side4 A17.out).mono ?_);(case side1 => repeat (first | exact (Kd.C_below HR1_2.out HB.out) | (with_reducible refine Kd.C_alloc ?_ _) | (with_reducible refine Kd.C_drewN ?_ _) | (with_reducible refine Kd.C_drew ?_)));(case side2 => exact HC1_2.out);(case side3 => repeat (first | exact (Kd.C_below HR1_3.out HB.out) | (with_reducible refine Kd.C_alloc ?_ _) | (with_reducible refine Kd.C_drewN ?_ _) | (with_reducible refine Kd.C_drew ?_)));(case side4 => exact HC1_3.out);rintro e w89 ⟨v311,v314,rfl,ho0,ho1,hb⟩;refine ⟨_,rfl,?_⟩;have n0_:=Up.RB HO295 hb;have n1_:=Aside0.mk (Kd.R_mono (Kd.R_told (Kd.R_told (Kd.R_old (Up.Rup HO300) hb) (Kd.R_base ho0)) (Kd.R_base ho1)) (fun _ h_ => h_.1));have n2_:=Aside0.mk (Kd.R_elder' (Up.Rup HO303) (Kd.R_base ho1) hb);have n3_:=Up.RB HO307 hb;have n4_:=Aside0.mk (Kd.R_lower (Kd.R_new' (Kd.R_new' ho0 (Kd.R_lt (Up.Rup HO300))) (Kd.R_lt (Up.Rup HO303))) (below_size (by repeat (first | (with_reducible first | exact HB.out | apply below_alloc | apply pw_below_drewN | apply below_drew1 | refine below_set ?_ GE290.out) | exact HB.out))));have n5_:=Aside0.mk (Kd.R_lower (Kd.R_new' ho1 (Kd.R_lt (Up.Rup HO303))) (below_size (by repeat (first | (with_reducible first | exact HB.out | apply below_alloc | apply pw_below_drewN | apply below_drew1 | refine below_set ?_ GE290.out) | exact HB.out))));have n6_:=Up.KB BK290 hb;have n7_:=Aside0.mk (below_step (by repeat (first | (with_reducible first | exact HB.out | apply below_alloc | apply pw_below_drewN | apply below_drew1 | refine below_set ?_ GE290.out) | exact HB.out)) hb);clear HO295;clear HO300;clear HO303;clear HO307;clear BK290;clear HB;have HO295:=n0_;have HO300:=n1_;have HO303:=n2_;have HO307:=n3_;have HO312:=n4_;have HO315:=n5_;have BK290:=n6_;have HB:=n7_;clear n0_ n1_ n2_ n3_ n4_ n5_ n6_ n7_;(try clear hb);(try clear hb2);(try clear hk);(try clear hi);(try clear ho0);(try clear ho1)) | ((with_reducible refine gate_dst (N:=8) rfl ?_);refine box_event ?hg (N:=8) ?hd (cs:=#[.string (⟨#[]⟩ : ByteArray),.int .i64 0,.slice none 0 0,.slice none 0 0]) (t:=27) ?hr ?_;(case hd => rfl);(case hg => rfl);(case hr => first | (go_simp;done) | (go_simp;rfl));intro gb316 hg w90 hbox hb;have n0_:=Up.RB HO295 hb;have n1_:=Aside0.mk (Kd.R_below (Kd.R_elderB (Up.Rup HO300) gb316 (Nat.le_of_eq hg.symm)) hb);have n2_:=Up.RB HO303 hb;have n3_:=Up.RB HO307 hb;have n4_:=Aside0.mk (Kd.R_below (Kd.R_elderB (Up.Rup HO312) gb316 (Nat.le_of_eq hg.symm)) hb);have n5_:=Up.RB HO315 hb;have n6_:=Up.KB BK290 hb;have n7_:=Aside0.mk (below_step (by repeat (first | (with_reducible first | exact HB.out | apply below_alloc | apply pw_below_drewN | apply below_drew1 | refine below_set ?_ GE290.out) | exact HB.out)) hb);have n8_:=Aside0.mk (hbox);have n9_:=Aside0.mk ((by rw [hg];exact (below_size (by repeat (first | (with_reducible first | exact HB.out | apply below_alloc | apply pw_below_drewN | apply below_drew1 | refine below_set ?_ GE290.out) | exact HB.out))) : w.heap.size ≤ gb316));have n10_:=Aside0.mk ((by rw [hg];exact (below_size (by repeat (first | (with_reducible first | exact HB.out | apply below_alloc | apply pw_below_drewN | apply below_drew1 | refine below_set ?_ GE290.out) | exact HB.out))) : w.heap.size ≤ gb316));have n11_:=Aside0.mk ((by rw [hg];exact Nat.ne_of_lt (blk_lt (g:=gb290) (o:=.cells #[.string a1_0,.int .i64 a1_1,.slice A1_2 l1_2.length c1_2,.slice A1_3 l1_3.length c1_3] 39 (0,0)) (Up.Kup BK290)) : gb290 ≠ gb316));have n12_:=Aside0.mk ((by rw [hg];exact Nat.ne_of_gt (blk_lt (g:=gb290) (o:=.cells #[.string a1_0,.int .i64 a1_1,.slice A1_2 l1_2.length c1_2,.slice A1_3 l1_3.length c1_3] 39 (0,0)) (Up.Kup BK290)) : gb316 ≠ gb290));clear HO295;clear HO300;clear HO303;clear HO307;clear HO312;clear HO315;clear BK290;clear HB;have HO295:=n0_;have HO300:=n1_;have HO303:=n2_;have HO307:=n3_;have HO312:=n4_;have HO315:=n5_;have BK290:=n6_;have HB:=n7_;have BK316:=n8_;have GW316:=n9_;have GE316:=n10_;have NB290_316:=n11_;have NB316_290:=n12_;clear n0_ n1_ n2_ n3_ n4_ n5_ n6_ n7_ n8_ n9_ n10_ n11_ n12_;clear hb hbox hg;have hnb91:=NB316_290.out;have hnc91:=NB290_316.out;have hcz92_0 : w90.cell? ⟨gb316,0,none⟩ = some (.string (⟨#[]⟩ : ByteArray)):=(blk_cell BK316.out 0).trans rfl;have hcz92_1 : w90.cell? ⟨gb316,1,none⟩ = some (.int .i64 0):=(blk_cell BK316.out 1).trans rfl;have hcz92_2 : w90.cell? ⟨gb316,2,none⟩ = some (.slice none 0 0):=(blk_cell BK316.out 2).trans rfl;have hcz92_3 : w90.cell? ⟨gb316,3,none⟩ = some (.slice none 0 0):=(blk_cell BK316.out 3).trans rfl;have hfz92_0:=blk_frozen BK316.out 0;have hfz92_1:=blk_frozen BK316.out 1;have hfz92_2:=blk_frozen BK316.out 2;have hfz92_3:=blk_frozen BK316.out 3;obtain ⟨Ao93,co93,eo93⟩:=Kd.R_slice HO312.out;subst eo93;obtain ⟨Ao94,co94,eo94⟩:=Kd.R_slice HO315.out;subst eo94;obtain ⟨Ao95,co95,eo95⟩:=Kd.R_slice HO307.out;subst eo95) | ((with_reducible refine gate_callee (f:=14) rfl ?_);refine goesL_ (some 31) rfl rfl Try.func14 (by kernel_rfl) rfl #[.slice Ao95 t305.length co95,.agg #[.string t308,.int .i64 t309,.slice Ao93 t310.length co93,.slice Ao94 t313.length co94]] rfl (by (try simp only [List.map_toArray,List.map_cons,List.map_nil]);first | done | rfl | (simp only [List.length_drop,List.length_take];rfl)) ?_;(with_reducible refine (impl_ValueOk.calls k _ _ t305 t308 t309 _ _ t310 _ _ t313 t317 _ ?side1 ?side2 ?side3 ?side4 ?side5 ?side6 A18.out).mono ?_);(case side1 => refine (Kd.R_reads' (e:=82) (base:=w.heap.size) (ok:=fun k_ => (True ∧ some k_ ≠ (.slice Ao83 t293.length co83 : Value).ownBlock)) (n:=t305.length) (c:=co95) ?_).2.2;exact (by (with_reducible repeat (first | apply Kd.R_alloc | apply Kd.R_drewN | apply Kd.R_drew));exact (Kd.R_mono (Kd.R_far (p:=⟨gb316,3,none⟩) (Kd.R_far (p:=⟨gb316,2,none⟩) (Kd.R_far (p:=⟨gb316,1,none⟩) (Kd.R_far (p:=⟨gb316,0,none⟩) (Kd.R_types HO307.out BK316.out (by decide)) (fun _ hk => hk.2) (.string t308)) (fun _ hk => hk.2) (.int .i64 t309)) (fun _ hk => hk.2) (.slice Ao93 t310.length co93)) (fun _ hk => hk.2) (.slice Ao94 t313.length co94)) (fun _ h_ => h_.1))));(case side2 => exact (Kd.R_reads' HO307.out).2.1);(case side3 => refine (Kd.R_reads' (e:=27) (base:=w.heap.size) (ok:=fun k_ => (((some k_ ≠ (.slice Ao94 t313.length co94 : Value).ownBlock ∧ some k_ ≠ (.slice Ao84 t298.length co84 : Value).ownBlock) ∧ some k_ ≠ (.slice Ao85 t301.length co85 : Value).ownBlock) ∧ k_ ≠ gb316)) (n:=t310.length) (c:=co93) ?_).2.2;exact (by (with_reducible repeat (first | apply Kd.R_alloc | apply Kd.R_drewN | apply Kd.R_drew));exact (Kd.R_mono (Kd.R_far (p:=⟨gb316,3,none⟩) (Kd.R_far (p:=⟨gb316,2,none⟩) (Kd.R_far (p:=⟨gb316,1,none⟩) (Kd.R_far (p:=⟨gb316,0,none⟩) (Kd.R_mono HO312.out (fun k_ hk => (⟨hk,hk.2⟩ : _ ∧ k_ ≠ gb316))) (fun _ hk => hk.2) (.string t308)) (fun _ hk => hk.2) (.int .i64 t309)) (fun _ hk => hk.2) (.slice Ao93 t310.length co93)) (fun _ hk => hk.2) (.slice Ao94 t313.length co94)) (fun _ h_ => h_.1))));(case side4 => exact (Kd.R_reads' HO312.out).2.1);(case side5 => refine (Kd.R_reads' (e:=3) (base:=w.heap.size) (ok:=fun k_ => (True ∧ some k_ ≠ (.slice Ao85 t301.length co85 : Value).ownBlock)) (n:=t313.length) (c:=co94) ?_).2.2;exact (by (with_reducible repeat (first | apply Kd.R_alloc | apply Kd.R_drewN | apply Kd.R_drew));exact (Kd.R_mono (Kd.R_far (p:=⟨gb316,3,none⟩) (Kd.R_far (p:=⟨gb316,2,none⟩) (Kd.R_far (p:=⟨gb316,1,none⟩) (Kd.R_far (p:=⟨gb316,0,none⟩) (Kd.R_types HO315.out BK316.out (by decide)) (fun _ hk => hk.2) (.string t308)) (fun _ hk => hk.2) (.int .i64 t309)) (fun _ hk => hk.2) (.slice Ao93 t310.length co93)) (fun _ hk => hk.2) (.slice Ao94 t313.length co94)) (fun _ h_ => h_.1))));(case side6 => exact (Kd.R_reads' HO315.out).2.1);rintro e w96 ⟨rfl,hb⟩;refine ⟨_,rfl,?_⟩;have n0_:=Aside0.mk (Kd.R_below (by (with_reducible repeat (first | apply Kd.R_alloc | apply Kd.R_drewN | apply Kd.R_drew));exact (Kd.R_mono (Kd.R_far (p:=⟨gb316,3,none⟩) (Kd.R_far (p:=⟨gb316,2,none⟩) (Kd.R_far (p:=⟨gb316,1,none⟩) (Kd.R_far (p:=⟨gb316,0,none⟩) (Kd.R_types HO295.out BK316.out (by decide)) (fun _ hk => hk.2) (.string t308)) (fun _ hk => hk.2) (.int .i64 t309)) (fun _ hk => hk.2) (.slice Ao93 t310.length co93)) (fun _ hk => hk.2) (.slice Ao94 t313.length co94)) (fun _ h_ => h_.1))) hb);have n1_:=Aside0.mk (Kd.R_below (by (with_reducible repeat (first | apply Kd.R_alloc | apply Kd.R_drewN | apply Kd.R_drew));exact (Kd.R_mono (Kd.R_far (p:=⟨gb316,3,none⟩) (Kd.R_far (p:=⟨gb316,2,none⟩) (Kd.R_far (p:=⟨gb316,1,none⟩) (Kd.R_far (p:=⟨gb316,0,none⟩) (Kd.R_mono HO300.out (fun k_ hk => (⟨hk,hk.2⟩ : _ ∧ k_ ≠ gb316))) (fun _ hk => hk.2) (.string t308)) (fun _ hk => hk.2) (.int .i64 t309)) (fun _ hk => hk.2) (.slice Ao93 t310.length co93)) (fun _ hk => hk.2) (.slice Ao94 t313.length co94)) (fun _ h_ => h_.1))) hb);have n2_:=Aside0.mk (Kd.R_below (by (with_reducible repeat (first | apply Kd.R_alloc | apply Kd.R_drewN | apply Kd.R_drew));exact (Kd.R_mono (Kd.R_far (p:=⟨gb316,3,none⟩) (Kd.R_far (p:=⟨gb316,2,none⟩) (Kd.R_far (p:=⟨gb316,1,none⟩) (Kd.R_far (p:=⟨gb316,0,none⟩) (Kd.R_types HO303.out BK316.out (by decide)) (fun _ hk => hk.2) (.string t308)) (fun _ hk => hk.2) (.int .i64 t309)) (fun _ hk => hk.2) (.slice Ao93 t310.length co93)) (fun _ hk => hk.2) (.slice Ao94 t313.length co94)) (fun _ h_ => h_.1))) hb);have n3_:=Aside0.mk (Kd.R_below (by (with_reducible repeat (first | apply Kd.R_alloc | apply Kd.R_drewN | apply Kd.R_drew));exact (Kd.R_mono (Kd.R_far (p:=⟨gb316,3,none⟩) (Kd.R_far (p:=⟨gb316,2,none⟩) (Kd.R_far (p:=⟨gb316,1,none⟩) (Kd.R_far (p:=⟨gb316,0,none⟩) (Kd.R_types HO307.out BK316.out (by decide)) (fun _ hk => hk.2) (.string t308)) (fun _ hk => hk.2) (.int .i64 t309)) (fun _ hk => hk.2) (.slice Ao93 t310.length co93)) (fun _ hk => hk.2) (.slice Ao94 t313.length co94)) (fun _ h_ => h_.1))) hb);have n4_:=Aside0.mk (Kd.R_below (by (with_reducible repeat (first | apply Kd.R_alloc | apply Kd.R_drewN | apply Kd.R_drew));exact (Kd.R_mono (Kd.R_far (p:=⟨gb316,3,none⟩) (Kd.R_far (p:=⟨gb316,2,none⟩) (Kd.R_far (p:=⟨gb316,1,none⟩) (Kd.R_far (p:=⟨gb316,0,none⟩) (Kd.R_mono HO312.out (fun k_ hk => (⟨hk,hk.2⟩ : _ ∧ k_ ≠ gb316))) (fun _ hk => hk.2) (.string t308)) (fun _ hk => hk.2) (.int .i64 t309)) (fun _ hk => hk.2) (.slice Ao93 t310.length co93)) (fun _ hk => hk.2) (.slice Ao94 t313.length co94)) (fun _ h_ => h_.1))) hb);have n5_:=Aside0.mk (Kd.R_below (by (with_reducible repeat (first | apply Kd.R_alloc | apply Kd.R_drewN | apply Kd.R_drew));exact (Kd.R_mono (Kd.R_far (p:=⟨gb316,3,none⟩) (Kd.R_far (p:=⟨gb316,2,none⟩) (Kd.R_far (p:=⟨gb316,1,none⟩) (Kd.R_far (p:=⟨gb316,0,none⟩) (Kd.R_types HO315.out BK316.out (by decide)) (fun _ hk => hk.2) (.string t308)) (fun _ hk => hk.2) (.int .i64 t309)) (fun _ hk => hk.2) (.slice Ao93 t310.length co93)) (fun _ hk => hk.2) (.slice Ao94 t313.length co94)) (fun _ h_ => h_.1))) hb);have n6_:=Aside0.mk (blk_below (g:=gb290) (o:=.cells #[.string a1_0,.int .i64 a1_1,.slice A1_2 l1_2.length c1_2,.slice A1_3 l1_3.length c1_3] 39 (0,0)) (by (with_reducible repeat (first | refine blk_drewN ?_ _ | refine blk_drew ?_ | refine blk_alloc ?_ _));refine blk_far ?_ NB290_316.out _;(with_reducible repeat (first | refine blk_drewN ?_ _ | refine blk_drew ?_ | refine blk_alloc ?_ _));refine blk_far ?_ NB290_316.out _;(with_reducible repeat (first | refine blk_drewN ?_ _ | refine blk_drew ?_ | refine blk_alloc ?_ _));refine blk_far ?_ NB290_316.out _;(with_reducible repeat (first | refine blk_drewN ?_ _ | refine blk_drew ?_ | refine blk_alloc ?_ _));refine blk_far ?_ NB290_316.out _;(with_reducible repeat (first | refine blk_drewN ?_ _ | refine blk_drew ?_ | refine blk_alloc ?_ _));exact BK290.out) hb);have n7_:=Aside0.mk (blk_below (g:=gb316) (o:=.cells #[.string t308,.int .i64 t309,.slice Ao93 t310.length co93,.slice Ao94 t313.length co94] 27 (0,0)) (by (with_reducible repeat (first | refine blk_drewN ?_ _ | refine blk_drew ?_ | refine blk_alloc ?_ _));refine blk_put (cs:=#[.string t308,.int .i64 t309,.slice Ao93 t310.length co93,.slice none 0 0]) ?_ 3 _ rfl;(with_reducible repeat (first | refine blk_drewN ?_ _ | refine blk_drew ?_ | refine blk_alloc ?_ _));refine blk_put (cs:=#[.string t308,.int .i64 t309,.slice none 0 0,.slice none 0 0]) ?_ 2 _ rfl;(with_reducible repeat (first | refine blk_drewN ?_ _ | refine blk_drew ?_ | refine blk_alloc ?_ _));refine blk_put (cs:=#[.string t308,.int .i64 0,.slice none 0 0,.slice none 0 0]) ?_ 1 _ rfl;(with_reducible repeat (first | refine blk_drewN ?_ _ | refine blk_drew ?_ | refine blk_alloc ?_ _));refine blk_put (cs:=#[.string (⟨#[]⟩ : ByteArray),.int .i64 0,.slice none 0 0,.slice none 0 0]) ?_ 0 _ rfl;(with_reducible repeat (first | refine blk_drewN ?_ _ | refine blk_drew ?_ | refine blk_alloc ?_ _));exact BK316.out) hb);have n8_:=Aside0.mk (below_step (by repeat (first | (with_reducible first | exact HB.out | apply below_alloc | apply pw_below_drewN | apply below_drew1 | refine below_set ?_ GE290.out | refine below_set ?_ GE316.out) | exact HB.out)) hb);clear HO295;clear HO300;clear HO303;clear HO307;clear HO312;clear HO315;clear BK290;clear BK316;clear HB;have HO295:=n0_;have HO300:=n1_;have HO303:=n2_;have HO307:=n3_;have HO312:=n4_;have HO315:=n5_;have BK290:=n6_;have BK316:=n7_;have HB:=n8_;clear n0_ n1_ n2_ n3_ n4_ n5_ n6_ n7_ n8_;(try clear hb);(try clear hb2);(try clear hk);(try clear hi)) | ((with_reducible refine gate_callee (f:=21) rfl ?_);refine goesL_ (some 37) rfl rfl Try.func21 (by kernel_rfl) rfl #[.slice A0 l0.length c0] rfl (by (try simp only [List.map_toArray,List.map_cons,List.map_nil]);first | done | rfl | (simp only [List.length_drop,List.length_take];rfl)) ?_;(with_reducible refine (laws_toRecordSS.calls k _ _ l0 t318 _ ?side1 ?side2 A41.out).mono ?_);(case side1 => repeat (first | exact (Kd.C_below HR0.out HB.out) | (with_reducible refine Kd.C_alloc ?_ _) | (with_reducible refine Kd.C_drewN ?_ _) | (with_reducible refine Kd.C_drew ?_)));(case side2 => exact HC0.out);rintro e w97 ⟨v319,rfl,ho0,hb⟩;refine ⟨_,rfl,?_⟩;have n0_:=Aside0.mk (Kd.R_elder' (Up.Rup HO295) (Kd.R_base ho0) hb);have n1_:=Up.RB HO300 hb;have n2_:=Up.RB HO303 hb;have n3_:=Aside0.mk (Kd.R_elder' (Up.Rup HO307) (Kd.R_base ho0) hb);have n4_:=Up.RB HO312 hb;have n5_:=Up.RB HO315 hb;have n6_:=Aside0.mk (Kd.R_lower (Kd.R_new' (Kd.R_new' ho0 (Kd.R_lt (Up.Rup HO295))) (Kd.R_lt (Up.Rup HO307))) (below_size (by repeat (first | (with_reducible first | exact HB.out | apply below_alloc | apply pw_below_drewN | apply below_drew1 | refine below_set ?_ GE290.out | refine below_set ?_ GE316.out) | exact HB.out))));have n7_:=Up.KB BK290 hb;have n8_:=Up.KB BK316 hb;have n9_:=Aside0.mk (below_step (by repeat (first | (with_reducible first | exact HB.out | apply below_alloc | apply pw_below_drewN | apply below_drew1 | refine below_set ?_ GE290.out | refine below_set ?_ GE316.out) | exact HB.out)) hb);clear HO295;clear HO300;clear HO303;clear HO307;clear HO312;clear HO315;clear BK290;clear BK316;clear HB;have HO295:=n0_;have HO300:=n1_;have HO303:=n2_;have HO307:=n3_;have HO312:=n4_;have HO315:=n5_;have HO320:=n6_;have BK290:=n7_;have BK316:=n8_;have HB:=n9_;clear n0_ n1_ n2_ n3_ n4_ n5_ n6_ n7_ n8_ n9_;(try clear hb);(try clear hb2);(try clear hk);(try clear hi);(try clear ho0);obtain ⟨Ao98,co98,eo98⟩:=Kd.R_slice HO320.out;subst eo98) | ((with_reducible refine gate_callee (f:=23) rfl ?_);refine goesL_ (some 38) rfl rfl Try.func23 (by kernel_rfl) rfl #[.slice Ao95 t305.length co95,.slice Ao98 t318.length co98] rfl (by (try simp only [List.map_toArray,List.map_cons,List.map_nil]);first | done | rfl | (simp only [List.length_drop,List.length_take];rfl)) ?_;(with_reducible refine (laws_eqRecordSS.calls k _ _ t305 _ _ t318 true _ ?side1 ?side2 ?side3 ?side4 A42.out).mono ?_);(case side1 => repeat (first | exact (Kd.R_reads' HO307.out).2.2 | (with_reducible refine Kd.C_alloc ?_ _) | (with_reducible refine Kd.C_drewN ?_ _) | (with_reducible refine Kd.C_drew ?_)));(case side2 => exact (Kd.R_reads' HO307.out).2.1);(case side3 => repeat (first | exact (Kd.R_reads' HO320.out).2.2 | (with_reducible refine Kd.C_alloc ?_ _) | (with_reducible refine Kd.C_drewN ?_ _) | (with_reducible refine Kd.C_drew ?_)));(case side4 => exact (Kd.R_reads' HO320.out).2.1);rintro e w99 ⟨rfl,hb⟩;refine ⟨_,rfl,?_⟩;have n0_:=Up.RB HO295 hb;have n1_:=Up.RB HO300 hb;have n2_:=Up.RB HO303 hb;have n3_:=Up.RB HO307 hb;have n4_:=Up.RB HO312 hb;have n5_:=Up.RB HO315 hb;have n6_:=Up.RB HO320 hb;have n7_:=Up.KB BK290 hb;have n8_:=Up.KB BK316 hb;have n9_:=Aside0.mk (below_step (by repeat (first | (with_reducible first | exact HB.out | apply below_alloc | apply pw_below_drewN | apply below_drew1 | refine below_set ?_ GE290.out | refine below_set ?_ GE316.out) | exact HB.out)) hb);clear HO295;clear HO300;clear HO303;clear HO307;clear HO312;clear HO315;clear HO320;clear BK290;clear BK316;clear HB;have HO295:=n0_;have HO300:=n1_;have HO303:=n2_;have HO307:=n3_;have HO312:=n4_;have HO315:=n5_;have HO320:=n6_;have BK290:=n7_;have BK316:=n8_;have HB:=n9_;clear n0_ n1_ n2_ n3_ n4_ n5_ n6_ n7_ n8_ n9_;(try clear hb);(try clear hb2);(try clear hk);(try clear hi)))
      have n0_:=Aside0.mk (Kd.R_drew HO295.out)
      have n1_:=Aside0.mk (Kd.R_drew HO300.out)
      have n2_:=Aside0.mk (Kd.R_drew HO303.out)
      have n3_:=Aside0.mk (Kd.R_drew HO307.out)
      have n4_:=Aside0.mk (Kd.R_drew HO312.out)
      have n5_:=Aside0.mk (Kd.R_drew HO315.out)
      have n6_:=Aside0.mk (Kd.R_drew HO320.out)
      have n7_:=Aside0.mk (blk_drew BK290.out)
      have n8_:=Aside0.mk (blk_drew BK316.out)
      have n9_:=Aside0.mk (below_drew1 HB.out)
      clear HO295
      clear HO300
      clear HO303
      clear HO307
      clear HO312
      clear HO315
      clear HO320
      clear BK290
      clear BK316
      clear HB
      have HO295:=n0_
      have HO300:=n1_
      have HO303:=n2_
      have HO307:=n3_
      have HO312:=n4_
      have HO315:=n5_
      have HO320:=n6_
      have BK290:=n7_
      have BK316:=n8_
      have HB:=n9_
      clear n0_ n1_ n2_ n3_ n4_ n5_ n6_ n7_ n8_ n9_
      refine start_ (n:=5) (S:=fun w' => w'.cell? ⟨gb316,0,none⟩ = some (.string t308) ∧ w'.cell? ⟨gb316,1,none⟩ = some (.int .i64 t309) ∧ w'.cell? ⟨gb316,2,none⟩ = some (.slice Ao93 t310.length co93) ∧ w'.cell? ⟨gb316,3,none⟩ = some (.slice Ao94 t313.length co94) ∧ w'.cell? ⟨gb290,0,none⟩ = some (.string a1_0) ∧ w'.cell? ⟨gb290,1,none⟩ = some (.int .i64 a1_1) ∧ w'.cell? ⟨gb290,2,none⟩ = some (.slice A1_2 l1_2.length c1_2) ∧ w'.cell? ⟨gb290,3,none⟩ = some (.slice A1_3 l1_3.length c1_3)) (ds:=[]) #[false,false,false,false,false] (by kernel_rfl) rfl rfl ⟨(blk_cell BK316.out 0).trans rfl,(blk_cell BK316.out 1).trans rfl,(blk_cell BK316.out 2).trans rfl,(blk_cell BK316.out 3).trans rfl,(blk_cell BK290.out 0).trans rfl,(blk_cell BK290.out 1).trans rfl,(blk_cell BK290.out 2).trans rfl,(blk_cell BK290.out 3).trans rfl⟩ (fun hHeld => ?_)
      generalize w99.drew = w100 at HO295 HO300 HO303 HO307 HO312 HO315 HO320 BK290 BK316 HB hHeld ⊢
      refine take_ (i:=0) (N:=some 40) (v:=?_) (a':=?_) #[true,false,false,false,false] rfl rfl (by kernel_rfl) (fun _ _ _ h => h) (Or.inl ⟨by rfl,?_⟩) hHeld ?_ ?_
      rotate_left
      ·rintro w' ⟨s0,s1,s2,s3,s4,s5,s6,s7⟩
       go_simp
       with_reducible rfl
      rotate_left
      ·simp only [Act.put,List.setIfInBounds_toArray,List.set_cons_zero,List.set_cons_succ,i64_w,i32_w]
       rfl
      refine take_ (i:=1) (N:=some 41) (v:=?_) (a':=?_) #[true,true,false,false,false] rfl rfl (by kernel_rfl) (fun _ _ _ h => h) (Or.inl ⟨by rfl,?_⟩) hHeld ?_ ?_
      rotate_left
      ·rintro w' ⟨s0,s1,s2,s3,s4,s5,s6,s7⟩
       go_simp
       with_reducible rfl
      rotate_left
      ·simp only [Act.put,List.setIfInBounds_toArray,List.set_cons_zero,List.set_cons_succ,i64_w,i32_w]
       rfl
      refine one_ (i:=2) (N:=some 42) #[true,true,true,false,false] rfl rfl (by kernel_rfl) (by decide) (fun K hK => ?_)
      refine goes_ Try.func22 (by kernel_rfl) rfl #[.agg #[.string a1_0,.int .i64 a1_1,.slice A1_2 l1_2.length c1_2,.slice A1_3 l1_3.length c1_3]] (by rfl) rfl rfl (by (try simp only [List.map_toArray,List.map_cons,List.map_nil]);first | done | rfl | (simp only [List.length_drop,List.length_take];rfl)) ?_
      with_reducible refine (laws_toValue.calls k a1_0 a1_1 _ _ l1_2 _ _ l1_3 t322 t323 t324 t327 _ ?side1 ?side2 ?side3 ?side4 A44.out).mono ?_
      (case side1 => repeat (first | exact (Kd.C_below HR1_2.out HB.out) | (with_reducible refine Kd.C_alloc ?_ _) | (with_reducible refine Kd.C_drewN ?_ _) | (with_reducible refine Kd.C_drew ?_)))
      (case side2 => exact HC1_2.out)
      (case side3 => repeat (first | exact (Kd.C_below HR1_3.out HB.out) | (with_reducible refine Kd.C_alloc ?_ _) | (with_reducible refine Kd.C_drewN ?_ _) | (with_reducible refine Kd.C_drew ?_)))
      (case side4 => exact HC1_3.out)
      rintro e w101 ⟨v325,v328,rfl,ho0,ho1,hb⟩
      refine ⟨_,rfl,?_⟩
      have n0_:=Up.RB HO295 hb
      have n1_:=Aside0.mk (Kd.R_mono (Kd.R_told (Kd.R_told (Kd.R_old (Up.Rup HO300) hb) (Kd.R_base ho0)) (Kd.R_base ho1)) (fun _ h_ => h_.1))
      have n2_:=Aside0.mk (Kd.R_elder' (Up.Rup HO303) (Kd.R_base ho1) hb)
      have n3_:=Up.RB HO307 hb
      have n4_:=Aside0.mk (Kd.R_mono (Kd.R_told (Kd.R_told (Kd.R_old (Up.Rup HO312) hb) (Kd.R_base ho0)) (Kd.R_base ho1)) (fun _ h_ => h_.1))
      have n5_:=Aside0.mk (Kd.R_elder' (Up.Rup HO315) (Kd.R_base ho1) hb)
      have n6_:=Up.RB HO320 hb
      have n7_:=Aside0.mk (Kd.R_lower (Kd.R_newB (Kd.R_new' (Kd.R_new' (Kd.R_new' (Kd.R_new' ho0 (Kd.R_lt (Up.Rup HO300))) (Kd.R_lt (Up.Rup HO303))) (Kd.R_lt (Up.Rup HO312))) (Kd.R_lt (Up.Rup HO315))) (g:=gb316) (o:=.cells #[.string t308,.int .i64 t309,.slice Ao93 t310.length co93,.slice Ao94 t313.length co94] 27 (0,0)) (Up.Kup BK316)) (below_size (by repeat (first | (with_reducible first | exact HB.out | apply below_alloc | apply pw_below_drewN | apply below_drew1 | refine below_set ?_ GE290.out | refine below_set ?_ GE316.out) | exact HB.out))))
      have n8_:=Aside0.mk (Kd.R_lower (Kd.R_new' (Kd.R_new' ho1 (Kd.R_lt (Up.Rup HO303))) (Kd.R_lt (Up.Rup HO315))) (below_size (by repeat (first | (with_reducible first | exact HB.out | apply below_alloc | apply pw_below_drewN | apply below_drew1 | refine below_set ?_ GE290.out | refine below_set ?_ GE316.out) | exact HB.out))))
      have n9_:=Up.KB BK290 hb
      have n10_:=Up.KB BK316 hb
      have n11_:=Aside0.mk (below_step (by repeat (first | (with_reducible first | exact HB.out | apply below_alloc | apply pw_below_drewN | apply below_drew1 | refine below_set ?_ GE290.out | refine below_set ?_ GE316.out) | exact HB.out)) hb)
      clear HO295
      clear HO300
      clear HO303
      clear HO307
      clear HO312
      clear HO315
      clear HO320
      clear BK290
      clear BK316
      clear HB
      have HO295:=n0_
      have HO300:=n1_
      have HO303:=n2_
      have HO307:=n3_
      have HO312:=n4_
      have HO315:=n5_
      have HO320:=n6_
      have HO326:=n7_
      have HO329:=n8_
      have BK290:=n9_
      have BK316:=n10_
      have HB:=n11_
      clear n0_ n1_ n2_ n3_ n4_ n5_ n6_ n7_ n8_ n9_ n10_ n11_
      (try clear hb)
      (try clear hb2)
      (try clear hk)
      (try clear hi)
      (try clear ho0)
      (try clear ho1)
      obtain ⟨Ao102,co102,eo102⟩:=Kd.R_slice HO326.out
      (first | subst eo102 | (injection eo102 with f1_ f2_ f3_;have f4_:=f1_.symm;have f5_:=f3_.symm;clear f1_ f2_ f3_;subst f4_;subst f5_))
      obtain ⟨Ao103,co103,eo103⟩:=Kd.R_slice HO329.out
      (first | subst eo103 | (injection eo103 with f1_ f2_ f3_;have f4_:=f1_.symm;have f5_:=f3_.symm;clear f1_ f2_ f3_;subst f4_;subst f5_))
      refine hK.out _ _ ⟨(blk_cell BK316.out 0).trans rfl,(blk_cell BK316.out 1).trans rfl,(blk_cell BK316.out 2).trans rfl,(blk_cell BK316.out 3).trans rfl,(blk_cell BK290.out 0).trans rfl,(blk_cell BK290.out 1).trans rfl,(blk_cell BK290.out 2).trans rfl,(blk_cell BK290.out 3).trans rfl⟩ (fun hHeld => ?_)
      clear hK K
      refine norm_ (a':=?_) ?_ ?_
      rotate_left
      ·show Act.put _ (some 42) _ = _
       simp only [Act.put,List.setIfInBounds_toArray,List.set_cons_zero,List.set_cons_succ,i64_w,i32_w]
       rfl
      refine one_ (i:=3) (N:=some 43) #[true,true,true,true,false] rfl rfl (by kernel_rfl) (by decide) (fun K hK => ?_)
      refine goes_ Try.func24 (by kernel_rfl) rfl #[.agg #[.string t308,.int .i64 t309,.slice Ao93 t310.length co93,.slice Ao94 t313.length co94],.agg #[.string t322,.int .i64 t323,.slice Ao102 t324.length co102,.slice Ao103 t327.length co103]] (by rfl) rfl rfl (by (try simp only [List.map_toArray,List.map_cons,List.map_nil]);first | done | rfl | (simp only [List.length_drop,List.length_take];rfl)) ?_
      with_reducible refine (laws_eqValue.calls k t308 t309 _ _ t310 _ _ t313 t322 t323 _ _ t324 _ _ t327 false _ ?side1 ?side2 ?side3 ?side4 ?side5 ?side6 ?side7 ?side8 A45.out).mono ?_
      (case side1 => repeat (first | exact (Kd.R_reads' HO312.out).2.2 | (with_reducible refine Kd.C_alloc ?_ _) | (with_reducible refine Kd.C_drewN ?_ _) | (with_reducible refine Kd.C_drew ?_)))
      (case side2 => exact (Kd.R_reads' HO312.out).2.1)
      (case side3 => repeat (first | exact (Kd.R_reads' HO315.out).2.2 | (with_reducible refine Kd.C_alloc ?_ _) | (with_reducible refine Kd.C_drewN ?_ _) | (with_reducible refine Kd.C_drew ?_)))
      (case side4 => exact (Kd.R_reads' HO315.out).2.1)
      (case side5 => repeat (first | exact (Kd.R_reads' HO326.out).2.2 | (with_reducible refine Kd.C_alloc ?_ _) | (with_reducible refine Kd.C_drewN ?_ _) | (with_reducible refine Kd.C_drew ?_)))
      (case side6 => exact (Kd.R_reads' HO326.out).2.1)
      (case side7 => repeat (first | exact (Kd.R_reads' HO329.out).2.2 | (with_reducible refine Kd.C_alloc ?_ _) | (with_reducible refine Kd.C_drewN ?_ _) | (with_reducible refine Kd.C_drew ?_)))
      (case side8 => exact (Kd.R_reads' HO329.out).2.1)
      rintro e w104 ⟨rfl,hb⟩
      refine ⟨_,rfl,?_⟩
      have n0_:=Up.RB HO295 hb
      have n1_:=Up.RB HO300 hb
      have n2_:=Up.RB HO303 hb
      have n3_:=Up.RB HO307 hb
      have n4_:=Up.RB HO312 hb
      have n5_:=Up.RB HO315 hb
      have n6_:=Up.RB HO320 hb
      have n7_:=Up.RB HO326 hb
      have n8_:=Up.RB HO329 hb
      have n9_:=Up.KB BK290 hb
      have n10_:=Up.KB BK316 hb
      have n11_:=Aside0.mk (below_step (by repeat (first | (with_reducible first | exact HB.out | apply below_alloc | apply pw_below_drewN | apply below_drew1 | refine below_set ?_ GE290.out | refine below_set ?_ GE316.out) | exact HB.out)) hb)
      clear HO295
      clear HO300
      clear HO303
      clear HO307
      clear HO312
      clear HO315
      clear HO320
      clear HO326
      clear HO329
      clear BK290
      clear BK316
      clear HB
      have HO295:=n0_
      have HO300:=n1_
      have HO303:=n2_
      have HO307:=n3_
      have HO312:=n4_
      have HO315:=n5_
      have HO320:=n6_
      have HO326:=n7_
      have HO329:=n8_
      have BK290:=n9_
      have BK316:=n10_
      have HB:=n11_
      clear n0_ n1_ n2_ n3_ n4_ n5_ n6_ n7_ n8_ n9_ n10_ n11_
      (try clear hb)
      (try clear hb2)
      (try clear hk)
      (try clear hi)
      refine hK.out _ _ ⟨(blk_cell BK316.out 0).trans rfl,(blk_cell BK316.out 1).trans rfl,(blk_cell BK316.out 2).trans rfl,(blk_cell BK316.out 3).trans rfl,(blk_cell BK290.out 0).trans rfl,(blk_cell BK290.out 1).trans rfl,(blk_cell BK290.out 2).trans rfl,(blk_cell BK290.out 3).trans rfl⟩ (fun hHeld => ?_)
      clear hK K
      refine norm_ (a':=?_) ?_ ?_
      rotate_left
      ·show Act.put _ (some 43) _ = _
       simp only [Act.put,List.setIfInBounds_toArray,List.set_cons_zero,List.set_cons_succ,i64_w,i32_w]
       rfl
      refine pure_ (i:=4) (N:=some 44) (v:=?_) (a':=?_) #[true,true,true,true,true] rfl rfl (by kernel_rfl) (fun _ _ _ h => h) (Or.inl ⟨by rfl,?_⟩) ?_ ?_
      rotate_left
      ·intro w'
       go_simp
       with_reducible rfl
      rotate_left
      ·simp only [Act.put,List.setIfInBounds_toArray,List.set_cons_zero,List.set_cons_succ,i64_w,i32_w]
       rfl
      refine done_ (by kernel_rfl) ?_
      try go_wp2
      go_ret
      exact ⟨by first | rfl | (simp [errW_none,errW_some] <;> rfl) | (simp [*,errW_none,errW_some] <;> rfl),by repeat (first | (with_reducible first | exact HB.out | apply below_alloc | apply pw_below_drewN | apply below_drew1 | refine below_set ?_ GE290.out | refine below_set ?_ GE316.out) | exact HB.out)⟩
    ·replace c43:=Bool.eq_false_iff.mpr c43
     subst c43
     have H1 : (some false) = some r:=by rw [if_neg (show ¬ (false = true) by decide)] at H;exact H
     clear H
     have H:=H1
     clear H1
     obtain rfl:=Option.some.inj H
     go_enter Try.func5,Try.ntmps5
     try go_wp2_with (first | ((with_reducible refine gate_dst (N:=3) rfl ?_);refine box_event ?hg (N:=3) ?hd (cs:=#[.string a1_0,.int .i64 a1_1,.slice A1_2 l1_2.length c1_2,.slice A1_3 l1_3.length c1_3]) (t:=39) ?hr ?_;(case hd => rfl);(case hg => rfl);(case hr => first | (go_simp;done) | (go_simp;rfl));intro gb290 hg w105 hbox hb;have n0_:=Up.BB HB hb;have n1_:=Aside0.mk (hbox);have n2_:=Aside0.mk ((by rw [hg];exact (below_size (Up.Bup HB)) : w.heap.size ≤ gb290));have n3_:=Aside0.mk ((by rw [hg];exact (below_size (Up.Bup HB)) : w.heap.size ≤ gb290));clear HB;have HB:=n0_;have BK290:=n1_;have GW290:=n2_;have GE290:=n3_;clear n0_ n1_ n2_ n3_;clear hb hbox hg) | ((with_reducible refine gate_callee (f:=18) rfl ?_);refine goesL_ (some 12) rfl rfl Try.func18 (by kernel_rfl) rfl #[.slice A0 l0.length c0,.int .i64 1048576] rfl (by (try simp only [List.map_toArray,List.map_cons,List.map_nil]);first | done | rfl | (simp only [List.length_drop,List.length_take];rfl)) ?_;(with_reducible refine (laws_szRecordSS.calls k _ _ l0 1048576 t291 _ ?side1 ?side2 A3.out).mono ?_);(case side1 => repeat (first | exact (Kd.C_below HR0.out HB.out) | (with_reducible refine Kd.C_alloc ?_ _) | (with_reducible refine Kd.C_drewN ?_ _) | (with_reducible refine Kd.C_drew ?_)));(case side2 => exact HC0.out);rintro e w106 ⟨rfl,hb⟩;refine ⟨_,rfl,?_⟩;have n0_:=Up.KB BK290 hb;have n1_:=Aside0.mk (below_step (by repeat (first | (with_reducible first | exact HB.out | apply below_alloc | apply pw_below_drewN | apply below_drew1 | refine below_set ?_ GE290.out) | exact HB.out)) hb);clear BK290;clear HB;have BK290:=n0_;have HB:=n1_;clear n0_ n1_;(try clear hb);(try clear hb2);(try clear hk);(try clear hi);have hcz107_0 : w106.cell? ⟨gb290,0,none⟩ = some (.string a1_0):=(blk_cell BK290.out 0).trans rfl;have hcz107_1 : w106.cell? ⟨gb290,1,none⟩ = some (.int .i64 a1_1):=(blk_cell BK290.out 1).trans rfl;have hcz107_2 : w106.cell? ⟨gb290,2,none⟩ = some (.slice A1_2 l1_2.length c1_2):=(blk_cell BK290.out 2).trans rfl;have hcz107_3 : w106.cell? ⟨gb290,3,none⟩ = some (.slice A1_3 l1_3.length c1_3):=(blk_cell BK290.out 3).trans rfl;have hfz107_0:=blk_frozen BK290.out 0;have hfz107_1:=blk_frozen BK290.out 1;have hfz107_2:=blk_frozen BK290.out 2;have hfz107_3:=blk_frozen BK290.out 3) | ((with_reducible refine gate_callee (f:=19) rfl ?_);refine goesL_ (some 17) rfl rfl Try.func19 (by kernel_rfl) rfl #[.agg #[.string a1_0,.int .i64 a1_1,.slice A1_2 l1_2.length c1_2,.slice A1_3 l1_3.length c1_3],.int .i64 t291] rfl (by (try simp only [List.map_toArray,List.map_cons,List.map_nil]);first | done | rfl | (simp only [List.length_drop,List.length_take];rfl)) ?_;(with_reducible refine (laws_szValue.calls k a1_0 a1_1 _ _ l1_2 _ _ l1_3 t291 t292 _ ?side1 ?side2 ?side3 ?side4 A7.out).mono ?_);(case side1 => repeat (first | exact (Kd.C_below HR1_2.out HB.out) | (with_reducible refine Kd.C_alloc ?_ _) | (with_reducible refine Kd.C_drewN ?_ _) | (with_reducible refine Kd.C_drew ?_)));(case side2 => exact HC1_2.out);(case side3 => repeat (first | exact (Kd.C_below HR1_3.out HB.out) | (with_reducible refine Kd.C_alloc ?_ _) | (with_reducible refine Kd.C_drewN ?_ _) | (with_reducible refine Kd.C_drew ?_)));(case side4 => exact HC1_3.out);rintro e w108 ⟨rfl,hb⟩;refine ⟨_,rfl,?_⟩;have n0_:=Up.KB BK290 hb;have n1_:=Aside0.mk (below_step (by repeat (first | (with_reducible first | exact HB.out | apply below_alloc | apply pw_below_drewN | apply below_drew1 | refine below_set ?_ GE290.out) | exact HB.out)) hb);clear BK290;clear HB;have BK290:=n0_;have HB:=n1_;clear n0_ n1_;(try clear hb);(try clear hb2);(try clear hk);(try clear hi)))
     have n0_:=Aside0.mk (blk_drew BK290.out)
     have n1_:=Aside0.mk (below_drew1 HB.out)
     clear BK290
     clear HB
     have BK290:=n0_
     have HB:=n1_
     clear n0_ n1_
     refine start_ (n:=6) (S:=fun w' => w'.cell? ⟨gb290,0,none⟩ = some (.string a1_0) ∧ w'.cell? ⟨gb290,1,none⟩ = some (.int .i64 a1_1) ∧ w'.cell? ⟨gb290,2,none⟩ = some (.slice A1_2 l1_2.length c1_2) ∧ w'.cell? ⟨gb290,3,none⟩ = some (.slice A1_3 l1_3.length c1_3)) (ds:=[]) #[false,false,false,false,false,false] (by kernel_rfl) rfl rfl ⟨(blk_cell BK290.out 0).trans rfl,(blk_cell BK290.out 1).trans rfl,(blk_cell BK290.out 2).trans rfl,(blk_cell BK290.out 3).trans rfl⟩ (fun hHeld => ?_)
     generalize w108.drew = w109 at BK290 HB hHeld ⊢
     refine pure_ (i:=0) (N:=some 20) (v:=?_) (a':=?_) #[true,false,false,false,false,false] rfl rfl (by kernel_rfl) (fun _ _ _ h => h) (Or.inl ⟨by rfl,?_⟩) ?_ ?_
     rotate_left
     ·intro w'
      go_simp
      with_reducible rfl
     rotate_left
     ·simp only [Act.put,List.setIfInBounds_toArray,List.set_cons_zero,List.set_cons_succ,i64_w,i32_w]
      rfl
     refine take_ (i:=2) (N:=some 22) (v:=?_) (a':=?_) #[true,false,true,false,false,false] rfl rfl (by kernel_rfl) (fun _ _ _ h => h) (Or.inl ⟨by rfl,?_⟩) hHeld ?_ ?_
     rotate_left
     ·rintro w' ⟨s0,s1,s2,s3⟩
      go_simp
      with_reducible rfl
     rotate_left
     ·simp only [Act.put,List.setIfInBounds_toArray,List.set_cons_zero,List.set_cons_succ,i64_w,i32_w]
      rfl
     refine one_ (i:=1) (N:=some 21) #[true,true,true,false,false,false] rfl rfl (by kernel_rfl) (by decide) (fun K hK => ?_)
     refine goes_ Try.func21 (by kernel_rfl) rfl #[.slice A0 l0.length c0] (by rfl) rfl rfl (by (try simp only [List.map_toArray,List.map_cons,List.map_nil]);first | done | rfl | (simp only [List.length_drop,List.length_take];rfl)) ?_
     with_reducible refine (laws_toRecordSS.calls k _ _ l0 t293 _ ?side1 ?side2 A13.out).mono ?_
     (case side1 => repeat (first | exact (Kd.C_below HR0.out HB.out) | (with_reducible refine Kd.C_alloc ?_ _) | (with_reducible refine Kd.C_drewN ?_ _) | (with_reducible refine Kd.C_drew ?_)))
     (case side2 => exact HC0.out)
     rintro e w110 ⟨v294,rfl,ho0,hb⟩
     refine ⟨_,rfl,?_⟩
     have n0_:=Aside0.mk (Kd.R_lower ho0 (below_size (by repeat (first | (with_reducible first | exact HB.out | apply below_alloc | apply pw_below_drewN | apply below_drew1 | refine below_set ?_ GE290.out) | exact HB.out))))
     have n1_:=Up.KB BK290 hb
     have n2_:=Aside0.mk (below_step (by repeat (first | (with_reducible first | exact HB.out | apply below_alloc | apply pw_below_drewN | apply below_drew1 | refine below_set ?_ GE290.out) | exact HB.out)) hb)
     clear BK290
     clear HB
     have HO295:=n0_
     have BK290:=n1_
     have HB:=n2_
     clear n0_ n1_ n2_
     (try clear hb)
     (try clear hb2)
     (try clear hk)
     (try clear hi)
     (try clear ho0)
     refine hK.out _ _ ⟨(blk_cell BK290.out 0).trans rfl,(blk_cell BK290.out 1).trans rfl,(blk_cell BK290.out 2).trans rfl,(blk_cell BK290.out 3).trans rfl⟩ (fun hHeld => ?_)
     clear hK K
     refine norm_ (a':=?_) ?_ ?_
     rotate_left
     ·show Act.put _ (some 21) _ = _
      simp only [Act.put,List.setIfInBounds_toArray,List.set_cons_zero,List.set_cons_succ,i64_w,i32_w]
      rfl
     refine one_ (i:=3) (N:=some 23) #[true,true,true,true,false,false] rfl rfl (by kernel_rfl) (by decide) (fun K hK => ?_)
     refine goes_ Try.func22 (by kernel_rfl) rfl #[.agg #[.string a1_0,.int .i64 a1_1,.slice A1_2 l1_2.length c1_2,.slice A1_3 l1_3.length c1_3]] (by rfl) rfl rfl (by (try simp only [List.map_toArray,List.map_cons,List.map_nil]);first | done | rfl | (simp only [List.length_drop,List.length_take];rfl)) ?_
     with_reducible refine (laws_toValue.calls k a1_0 a1_1 _ _ l1_2 _ _ l1_3 t296 t297 t298 t301 _ ?side1 ?side2 ?side3 ?side4 A14.out).mono ?_
     (case side1 => repeat (first | exact (Kd.C_below HR1_2.out HB.out) | (with_reducible refine Kd.C_alloc ?_ _) | (with_reducible refine Kd.C_drewN ?_ _) | (with_reducible refine Kd.C_drew ?_)))
     (case side2 => exact HC1_2.out)
     (case side3 => repeat (first | exact (Kd.C_below HR1_3.out HB.out) | (with_reducible refine Kd.C_alloc ?_ _) | (with_reducible refine Kd.C_drewN ?_ _) | (with_reducible refine Kd.C_drew ?_)))
     (case side4 => exact HC1_3.out)
     rintro e w111 ⟨v299,v302,rfl,ho0,ho1,hb⟩
     refine ⟨_,rfl,?_⟩
     have n0_:=Up.RB HO295 hb
     have n1_:=Aside0.mk (Kd.R_lower ho0 (below_size (by repeat (first | (with_reducible first | exact HB.out | apply below_alloc | apply pw_below_drewN | apply below_drew1 | refine below_set ?_ GE290.out) | exact HB.out))))
     have n2_:=Aside0.mk (Kd.R_lower ho1 (below_size (by repeat (first | (with_reducible first | exact HB.out | apply below_alloc | apply pw_below_drewN | apply below_drew1 | refine below_set ?_ GE290.out) | exact HB.out))))
     have n3_:=Up.KB BK290 hb
     have n4_:=Aside0.mk (below_step (by repeat (first | (with_reducible first | exact HB.out | apply below_alloc | apply pw_below_drewN | apply below_drew1 | refine below_set ?_ GE290.out) | exact HB.out)) hb)
     clear HO295
     clear BK290
     clear HB
     have HO295:=n0_
     have HO300:=n1_
     have HO303:=n2_
     have BK290:=n3_
     have HB:=n4_
     clear n0_ n1_ n2_ n3_ n4_
     (try clear hb)
     (try clear hb2)
     (try clear hk)
     (try clear hi)
     (try clear ho0)
     (try clear ho1)
     obtain ⟨Ao112,co112,eo112⟩:=Kd.R_slice HO295.out
     (first | subst eo112 | (injection eo112 with f1_ f2_ f3_;have f4_:=f1_.symm;have f5_:=f3_.symm;clear f1_ f2_ f3_;subst f4_;subst f5_))
     obtain ⟨Ao113,co113,eo113⟩:=Kd.R_slice HO300.out
     (first | subst eo113 | (injection eo113 with f1_ f2_ f3_;have f4_:=f1_.symm;have f5_:=f3_.symm;clear f1_ f2_ f3_;subst f4_;subst f5_))
     obtain ⟨Ao114,co114,eo114⟩:=Kd.R_slice HO303.out
     (first | subst eo114 | (injection eo114 with f1_ f2_ f3_;have f4_:=f1_.symm;have f5_:=f3_.symm;clear f1_ f2_ f3_;subst f4_;subst f5_))
     refine hK.out _ _ ⟨(blk_cell BK290.out 0).trans rfl,(blk_cell BK290.out 1).trans rfl,(blk_cell BK290.out 2).trans rfl,(blk_cell BK290.out 3).trans rfl⟩ (fun hHeld => ?_)
     clear hK K
     refine norm_ (a':=?_) ?_ ?_
     rotate_left
     ·show Act.put _ (some 23) _ = _
      simp only [Act.put,List.setIfInBounds_toArray,List.set_cons_zero,List.set_cons_succ,i64_w,i32_w]
      rfl
     refine one_ (i:=4) (N:=some 24) #[true,true,true,true,true,false] rfl rfl (by kernel_rfl) (by decide) (fun K hK => ?_)
     refine goes_ Try.func20 (by kernel_rfl) rfl #[.slice Ao112 t293.length co112,.agg #[.string t296,.int .i64 t297,.slice Ao113 t298.length co113,.slice Ao114 t301.length co114]] (by rfl) rfl rfl (by (try simp only [List.map_toArray,List.map_cons,List.map_nil]);first | done | rfl | (simp only [List.length_drop,List.length_take];rfl)) ?_
     with_reducible refine (spec_ValueOk.calls k _ _ t293 t296 t297 _ _ t298 _ _ t301 t304 _ ?side1 ?side2 ?side3 ?side4 ?side5 ?side6 A15.out).mono ?_
     (case side1 => repeat (first | exact (Kd.R_reads' HO295.out).2.2 | (with_reducible refine Kd.C_alloc ?_ _) | (with_reducible refine Kd.C_drewN ?_ _) | (with_reducible refine Kd.C_drew ?_)))
     (case side2 => exact (Kd.R_reads' HO295.out).2.1)
     (case side3 => repeat (first | exact (Kd.R_reads' HO300.out).2.2 | (with_reducible refine Kd.C_alloc ?_ _) | (with_reducible refine Kd.C_drewN ?_ _) | (with_reducible refine Kd.C_drew ?_)))
     (case side4 => exact (Kd.R_reads' HO300.out).2.1)
     (case side5 => repeat (first | exact (Kd.R_reads' HO303.out).2.2 | (with_reducible refine Kd.C_alloc ?_ _) | (with_reducible refine Kd.C_drewN ?_ _) | (with_reducible refine Kd.C_drew ?_)))
     (case side6 => exact (Kd.R_reads' HO303.out).2.1)
     rintro e w115 ⟨rfl,hb⟩
     refine ⟨_,rfl,?_⟩
     have n0_:=Up.RB HO295 hb
     have n1_:=Up.RB HO300 hb
     have n2_:=Up.RB HO303 hb
     have n3_:=Up.KB BK290 hb
     have n4_:=Aside0.mk (below_step (by repeat (first | (with_reducible first | exact HB.out | apply below_alloc | apply pw_below_drewN | apply below_drew1 | refine below_set ?_ GE290.out) | exact HB.out)) hb)
     clear HO295
     clear HO300
     clear HO303
     clear BK290
     clear HB
     have HO295:=n0_
     have HO300:=n1_
     have HO303:=n2_
     have BK290:=n3_
     have HB:=n4_
     clear n0_ n1_ n2_ n3_ n4_
     (try clear hb)
     (try clear hb2)
     (try clear hk)
     (try clear hi)
     refine hK.out _ _ ⟨(blk_cell BK290.out 0).trans rfl,(blk_cell BK290.out 1).trans rfl,(blk_cell BK290.out 2).trans rfl,(blk_cell BK290.out 3).trans rfl⟩ (fun hHeld => ?_)
     clear hK K
     refine norm_ (a':=?_) ?_ ?_
     rotate_left
     ·show Act.put _ (some 24) _ = _
      simp only [Act.put,List.setIfInBounds_toArray,List.set_cons_zero,List.set_cons_succ,i64_w,i32_w]
      rfl
     refine pure_ (i:=5) (N:=some 6) (v:=?_) (a':=?_) #[true,true,true,true,true,true] rfl rfl (by kernel_rfl) (fun _ _ _ h => h) (Or.inl ⟨by rfl,?_⟩) ?_ ?_
     rotate_left
     ·intro w'
      go_simp
      with_reducible rfl
     rotate_left
     ·simp only [Act.put,List.setIfInBounds_toArray,List.set_cons_zero,List.set_cons_succ,i64_w,i32_w]
      rfl
     refine done_ (by kernel_rfl) ?_
     try go_wp2_with (first | ((with_reducible refine gate_callee (f:=21) rfl ?_);refine goesL_ (some 26) rfl rfl Try.func21 (by kernel_rfl) rfl #[.slice A0 l0.length c0] rfl (by (try simp only [List.map_toArray,List.map_cons,List.map_nil]);first | done | rfl | (simp only [List.length_drop,List.length_take];rfl)) ?_;(with_reducible refine (laws_toRecordSS.calls k _ _ l0 t305 _ ?side1 ?side2 A16.out).mono ?_);(case side1 => repeat (first | exact (Kd.C_below HR0.out HB.out) | (with_reducible refine Kd.C_alloc ?_ _) | (with_reducible refine Kd.C_drewN ?_ _) | (with_reducible refine Kd.C_drew ?_)));(case side2 => exact HC0.out);rintro e w116 ⟨v306,rfl,ho0,hb⟩;refine ⟨_,rfl,?_⟩;have n0_:=Aside0.mk (Kd.R_elder' (Up.Rup HO295) (Kd.R_base ho0) hb);have n1_:=Up.RB HO300 hb;have n2_:=Up.RB HO303 hb;have n3_:=Aside0.mk (Kd.R_lower (Kd.R_new' ho0 (Kd.R_lt (Up.Rup HO295))) (below_size (by repeat (first | (with_reducible first | exact HB.out | apply below_alloc | apply pw_below_drewN | apply below_drew1 | refine below_set ?_ GE290.out) | exact HB.out))));have n4_:=Up.KB BK290 hb;have n5_:=Aside0.mk (below_step (by repeat (first | (with_reducible first | exact HB.out | apply below_alloc | apply pw_below_drewN | apply below_drew1 | refine below_set ?_ GE290.out) | exact HB.out)) hb);clear HO295;clear HO300;clear HO303;clear BK290;clear HB;have HO295:=n0_;have HO300:=n1_;have HO303:=n2_;have HO307:=n3_;have BK290:=n4_;have HB:=n5_;clear n0_ n1_ n2_ n3_ n4_ n5_;(try clear hb);(try clear hb2);(try clear hk);(try clear hi);(try clear ho0);have hcz117_0 : w116.cell? ⟨gb290,0,none⟩ = some (.string a1_0):=(blk_cell BK290.out 0).trans rfl;have hcz117_1 : w116.cell? ⟨gb290,1,none⟩ = some (.int .i64 a1_1):=(blk_cell BK290.out 1).trans rfl;have hcz117_2 : w116.cell? ⟨gb290,2,none⟩ = some (.slice A1_2 l1_2.length c1_2):=(blk_cell BK290.out 2).trans rfl;have hcz117_3 : w116.cell? ⟨gb290,3,none⟩ = some (.slice A1_3 l1_3.length c1_3):=(blk_cell BK290.out 3).trans rfl;have hfz117_0:=blk_frozen BK290.out 0;have hfz117_1:=blk_frozen BK290.out 1;have hfz117_2:=blk_frozen BK290.out 2;have hfz117_3:=blk_frozen BK290.out 3) | ((with_reducible refine gate_callee (f:=22) rfl ?_);refine goesL_ (some 28) rfl rfl Try.func22 (by kernel_rfl) rfl #[.agg #[.string a1_0,.int .i64 a1_1,.slice A1_2 l1_2.length c1_2,.slice A1_3 l1_3.length c1_3]] rfl (by (try simp only [List.map_toArray,List.map_cons,List.map_nil]);first | done | rfl | (simp only [List.length_drop,List.length_take];rfl)) ?_;(with_reducible refine (laws_toValue.calls k a1_0 a1_1 _ _ l1_2 _ _ l1_3 t308 t309 t310 t313 _ ?side1 ?side2 ?side3 ?side4 A17.out).mono ?_);(case side1 => repeat (first | exact (Kd.C_below HR1_2.out HB.out) | (with_reducible refine Kd.C_alloc ?_ _) | (with_reducible refine Kd.C_drewN ?_ _) | (with_reducible refine Kd.C_drew ?_)));(case side2 => exact HC1_2.out);(case side3 => repeat (first | exact (Kd.C_below HR1_3.out HB.out) | (with_reducible refine Kd.C_alloc ?_ _) | (with_reducible refine Kd.C_drewN ?_ _) | (with_reducible refine Kd.C_drew ?_)));(case side4 => exact HC1_3.out);rintro e w118 ⟨v311,v314,rfl,ho0,ho1,hb⟩;refine ⟨_,rfl,?_⟩;have n0_:=Up.RB HO295 hb;have n1_:=Aside0.mk (Kd.R_mono (Kd.R_told (Kd.R_told (Kd.R_old (Up.Rup HO300) hb) (Kd.R_base ho0)) (Kd.R_base ho1)) (fun _ h_ => h_.1));have n2_:=Aside0.mk (Kd.R_elder' (Up.Rup HO303) (Kd.R_base ho1) hb);have n3_:=Up.RB HO307 hb;have n4_:=Aside0.mk (Kd.R_lower (Kd.R_new' (Kd.R_new' ho0 (Kd.R_lt (Up.Rup HO300))) (Kd.R_lt (Up.Rup HO303))) (below_size (by repeat (first | (with_reducible first | exact HB.out | apply below_alloc | apply pw_below_drewN | apply below_drew1 | refine below_set ?_ GE290.out) | exact HB.out))));have n5_:=Aside0.mk (Kd.R_lower (Kd.R_new' ho1 (Kd.R_lt (Up.Rup HO303))) (below_size (by repeat (first | (with_reducible first | exact HB.out | apply below_alloc | apply pw_below_drewN | apply below_drew1 | refine below_set ?_ GE290.out) | exact HB.out))));have n6_:=Up.KB BK290 hb;have n7_:=Aside0.mk (below_step (by repeat (first | (with_reducible first | exact HB.out | apply below_alloc | apply pw_below_drewN | apply below_drew1 | refine below_set ?_ GE290.out) | exact HB.out)) hb);clear HO295;clear HO300;clear HO303;clear HO307;clear BK290;clear HB;have HO295:=n0_;have HO300:=n1_;have HO303:=n2_;have HO307:=n3_;have HO312:=n4_;have HO315:=n5_;have BK290:=n6_;have HB:=n7_;clear n0_ n1_ n2_ n3_ n4_ n5_ n6_ n7_;(try clear hb);(try clear hb2);(try clear hk);(try clear hi);(try clear ho0);(try clear ho1)) | ((with_reducible refine gate_dst (N:=8) rfl ?_);refine box_event ?hg (N:=8) ?hd (cs:=#[.string (⟨#[]⟩ : ByteArray),.int .i64 0,.slice none 0 0,.slice none 0 0]) (t:=27) ?hr ?_;(case hd => rfl);(case hg => rfl);(case hr => first | (go_simp;done) | (go_simp;rfl));intro gb316 hg w119 hbox hb;have n0_:=Up.RB HO295 hb;have n1_:=Aside0.mk (Kd.R_below (Kd.R_elderB (Up.Rup HO300) gb316 (Nat.le_of_eq hg.symm)) hb);have n2_:=Up.RB HO303 hb;have n3_:=Up.RB HO307 hb;have n4_:=Aside0.mk (Kd.R_below (Kd.R_elderB (Up.Rup HO312) gb316 (Nat.le_of_eq hg.symm)) hb);have n5_:=Up.RB HO315 hb;have n6_:=Up.KB BK290 hb;have n7_:=Aside0.mk (below_step (by repeat (first | (with_reducible first | exact HB.out | apply below_alloc | apply pw_below_drewN | apply below_drew1 | refine below_set ?_ GE290.out) | exact HB.out)) hb);have n8_:=Aside0.mk (hbox);have n9_:=Aside0.mk ((by rw [hg];exact (below_size (by repeat (first | (with_reducible first | exact HB.out | apply below_alloc | apply pw_below_drewN | apply below_drew1 | refine below_set ?_ GE290.out) | exact HB.out))) : w.heap.size ≤ gb316));have n10_:=Aside0.mk ((by rw [hg];exact (below_size (by repeat (first | (with_reducible first | exact HB.out | apply below_alloc | apply pw_below_drewN | apply below_drew1 | refine below_set ?_ GE290.out) | exact HB.out))) : w.heap.size ≤ gb316));have n11_:=Aside0.mk ((by rw [hg];exact Nat.ne_of_lt (blk_lt (g:=gb290) (o:=.cells #[.string a1_0,.int .i64 a1_1,.slice A1_2 l1_2.length c1_2,.slice A1_3 l1_3.length c1_3] 39 (0,0)) (Up.Kup BK290)) : gb290 ≠ gb316));have n12_:=Aside0.mk ((by rw [hg];exact Nat.ne_of_gt (blk_lt (g:=gb290) (o:=.cells #[.string a1_0,.int .i64 a1_1,.slice A1_2 l1_2.length c1_2,.slice A1_3 l1_3.length c1_3] 39 (0,0)) (Up.Kup BK290)) : gb316 ≠ gb290));clear HO295;clear HO300;clear HO303;clear HO307;clear HO312;clear HO315;clear BK290;clear HB;have HO295:=n0_;have HO300:=n1_;have HO303:=n2_;have HO307:=n3_;have HO312:=n4_;have HO315:=n5_;have BK290:=n6_;have HB:=n7_;have BK316:=n8_;have GW316:=n9_;have GE316:=n10_;have NB290_316:=n11_;have NB316_290:=n12_;clear n0_ n1_ n2_ n3_ n4_ n5_ n6_ n7_ n8_ n9_ n10_ n11_ n12_;clear hb hbox hg;have hnb120:=NB316_290.out;have hnc120:=NB290_316.out;have hcz121_0 : w119.cell? ⟨gb316,0,none⟩ = some (.string (⟨#[]⟩ : ByteArray)):=(blk_cell BK316.out 0).trans rfl;have hcz121_1 : w119.cell? ⟨gb316,1,none⟩ = some (.int .i64 0):=(blk_cell BK316.out 1).trans rfl;have hcz121_2 : w119.cell? ⟨gb316,2,none⟩ = some (.slice none 0 0):=(blk_cell BK316.out 2).trans rfl;have hcz121_3 : w119.cell? ⟨gb316,3,none⟩ = some (.slice none 0 0):=(blk_cell BK316.out 3).trans rfl;have hfz121_0:=blk_frozen BK316.out 0;have hfz121_1:=blk_frozen BK316.out 1;have hfz121_2:=blk_frozen BK316.out 2;have hfz121_3:=blk_frozen BK316.out 3;obtain ⟨Ao122,co122,eo122⟩:=Kd.R_slice HO312.out;subst eo122;obtain ⟨Ao123,co123,eo123⟩:=Kd.R_slice HO315.out;subst eo123;obtain ⟨Ao124,co124,eo124⟩:=Kd.R_slice HO307.out;subst eo124) | ((with_reducible refine gate_callee (f:=14) rfl ?_);refine goesL_ (some 31) rfl rfl Try.func14 (by kernel_rfl) rfl #[.slice Ao124 t305.length co124,.agg #[.string t308,.int .i64 t309,.slice Ao122 t310.length co122,.slice Ao123 t313.length co123]] rfl (by (try simp only [List.map_toArray,List.map_cons,List.map_nil]);first | done | rfl | (simp only [List.length_drop,List.length_take];rfl)) ?_;(with_reducible refine (impl_ValueOk.calls k _ _ t305 t308 t309 _ _ t310 _ _ t313 t317 _ ?side1 ?side2 ?side3 ?side4 ?side5 ?side6 A18.out).mono ?_);(case side1 => refine (Kd.R_reads' (e:=82) (base:=w.heap.size) (ok:=fun k_ => (True ∧ some k_ ≠ (.slice Ao112 t293.length co112 : Value).ownBlock)) (n:=t305.length) (c:=co124) ?_).2.2;exact (by (with_reducible repeat (first | apply Kd.R_alloc | apply Kd.R_drewN | apply Kd.R_drew));exact (Kd.R_mono (Kd.R_far (p:=⟨gb316,3,none⟩) (Kd.R_far (p:=⟨gb316,2,none⟩) (Kd.R_far (p:=⟨gb316,1,none⟩) (Kd.R_far (p:=⟨gb316,0,none⟩) (Kd.R_types HO307.out BK316.out (by decide)) (fun _ hk => hk.2) (.string t308)) (fun _ hk => hk.2) (.int .i64 t309)) (fun _ hk => hk.2) (.slice Ao122 t310.length co122)) (fun _ hk => hk.2) (.slice Ao123 t313.length co123)) (fun _ h_ => h_.1))));(case side2 => exact (Kd.R_reads' HO307.out).2.1);(case side3 => refine (Kd.R_reads' (e:=27) (base:=w.heap.size) (ok:=fun k_ => (((some k_ ≠ (.slice Ao123 t313.length co123 : Value).ownBlock ∧ some k_ ≠ (.slice Ao113 t298.length co113 : Value).ownBlock) ∧ some k_ ≠ (.slice Ao114 t301.length co114 : Value).ownBlock) ∧ k_ ≠ gb316)) (n:=t310.length) (c:=co122) ?_).2.2;exact (by (with_reducible repeat (first | apply Kd.R_alloc | apply Kd.R_drewN | apply Kd.R_drew));exact (Kd.R_mono (Kd.R_far (p:=⟨gb316,3,none⟩) (Kd.R_far (p:=⟨gb316,2,none⟩) (Kd.R_far (p:=⟨gb316,1,none⟩) (Kd.R_far (p:=⟨gb316,0,none⟩) (Kd.R_mono HO312.out (fun k_ hk => (⟨hk,hk.2⟩ : _ ∧ k_ ≠ gb316))) (fun _ hk => hk.2) (.string t308)) (fun _ hk => hk.2) (.int .i64 t309)) (fun _ hk => hk.2) (.slice Ao122 t310.length co122)) (fun _ hk => hk.2) (.slice Ao123 t313.length co123)) (fun _ h_ => h_.1))));(case side4 => exact (Kd.R_reads' HO312.out).2.1);(case side5 => refine (Kd.R_reads' (e:=3) (base:=w.heap.size) (ok:=fun k_ => (True ∧ some k_ ≠ (.slice Ao114 t301.length co114 : Value).ownBlock)) (n:=t313.length) (c:=co123) ?_).2.2;exact (by (with_reducible repeat (first | apply Kd.R_alloc | apply Kd.R_drewN | apply Kd.R_drew));exact (Kd.R_mono (Kd.R_far (p:=⟨gb316,3,none⟩) (Kd.R_far (p:=⟨gb316,2,none⟩) (Kd.R_far (p:=⟨gb316,1,none⟩) (Kd.R_far (p:=⟨gb316,0,none⟩) (Kd.R_types HO315.out BK316.out (by decide)) (fun _ hk => hk.2) (.string t308)) (fun _ hk => hk.2) (.int .i64 t309)) (fun _ hk => hk.2) (.slice Ao122 t310.length co122)) (fun _ hk => hk.2) (.slice Ao123 t313.length co123)) (fun _ h_ => h_.1))));(case side6 => exact (Kd.R_reads' HO315.out).2.1);rintro e w125 ⟨rfl,hb⟩;refine ⟨_,rfl,?_⟩;have n0_:=Aside0.mk (Kd.R_below (by (with_reducible repeat (first | apply Kd.R_alloc | apply Kd.R_drewN | apply Kd.R_drew));exact (Kd.R_mono (Kd.R_far (p:=⟨gb316,3,none⟩) (Kd.R_far (p:=⟨gb316,2,none⟩) (Kd.R_far (p:=⟨gb316,1,none⟩) (Kd.R_far (p:=⟨gb316,0,none⟩) (Kd.R_types HO295.out BK316.out (by decide)) (fun _ hk => hk.2) (.string t308)) (fun _ hk => hk.2) (.int .i64 t309)) (fun _ hk => hk.2) (.slice Ao122 t310.length co122)) (fun _ hk => hk.2) (.slice Ao123 t313.length co123)) (fun _ h_ => h_.1))) hb);have n1_:=Aside0.mk (Kd.R_below (by (with_reducible repeat (first | apply Kd.R_alloc | apply Kd.R_drewN | apply Kd.R_drew));exact (Kd.R_mono (Kd.R_far (p:=⟨gb316,3,none⟩) (Kd.R_far (p:=⟨gb316,2,none⟩) (Kd.R_far (p:=⟨gb316,1,none⟩) (Kd.R_far (p:=⟨gb316,0,none⟩) (Kd.R_mono HO300.out (fun k_ hk => (⟨hk,hk.2⟩ : _ ∧ k_ ≠ gb316))) (fun _ hk => hk.2) (.string t308)) (fun _ hk => hk.2) (.int .i64 t309)) (fun _ hk => hk.2) (.slice Ao122 t310.length co122)) (fun _ hk => hk.2) (.slice Ao123 t313.length co123)) (fun _ h_ => h_.1))) hb);have n2_:=Aside0.mk (Kd.R_below (by (with_reducible repeat (first | apply Kd.R_alloc | apply Kd.R_drewN | apply Kd.R_drew));exact (Kd.R_mono (Kd.R_far (p:=⟨gb316,3,none⟩) (Kd.R_far (p:=⟨gb316,2,none⟩) (Kd.R_far (p:=⟨gb316,1,none⟩) (Kd.R_far (p:=⟨gb316,0,none⟩) (Kd.R_types HO303.out BK316.out (by decide)) (fun _ hk => hk.2) (.string t308)) (fun _ hk => hk.2) (.int .i64 t309)) (fun _ hk => hk.2) (.slice Ao122 t310.length co122)) (fun _ hk => hk.2) (.slice Ao123 t313.length co123)) (fun _ h_ => h_.1))) hb);have n3_:=Aside0.mk (Kd.R_below (by (with_reducible repeat (first | apply Kd.R_alloc | apply Kd.R_drewN | apply Kd.R_drew));exact (Kd.R_mono (Kd.R_far (p:=⟨gb316,3,none⟩) (Kd.R_far (p:=⟨gb316,2,none⟩) (Kd.R_far (p:=⟨gb316,1,none⟩) (Kd.R_far (p:=⟨gb316,0,none⟩) (Kd.R_types HO307.out BK316.out (by decide)) (fun _ hk => hk.2) (.string t308)) (fun _ hk => hk.2) (.int .i64 t309)) (fun _ hk => hk.2) (.slice Ao122 t310.length co122)) (fun _ hk => hk.2) (.slice Ao123 t313.length co123)) (fun _ h_ => h_.1))) hb);have n4_:=Aside0.mk (Kd.R_below (by (with_reducible repeat (first | apply Kd.R_alloc | apply Kd.R_drewN | apply Kd.R_drew));exact (Kd.R_mono (Kd.R_far (p:=⟨gb316,3,none⟩) (Kd.R_far (p:=⟨gb316,2,none⟩) (Kd.R_far (p:=⟨gb316,1,none⟩) (Kd.R_far (p:=⟨gb316,0,none⟩) (Kd.R_mono HO312.out (fun k_ hk => (⟨hk,hk.2⟩ : _ ∧ k_ ≠ gb316))) (fun _ hk => hk.2) (.string t308)) (fun _ hk => hk.2) (.int .i64 t309)) (fun _ hk => hk.2) (.slice Ao122 t310.length co122)) (fun _ hk => hk.2) (.slice Ao123 t313.length co123)) (fun _ h_ => h_.1))) hb);have n5_:=Aside0.mk (Kd.R_below (by (with_reducible repeat (first | apply Kd.R_alloc | apply Kd.R_drewN | apply Kd.R_drew));exact (Kd.R_mono (Kd.R_far (p:=⟨gb316,3,none⟩) (Kd.R_far (p:=⟨gb316,2,none⟩) (Kd.R_far (p:=⟨gb316,1,none⟩) (Kd.R_far (p:=⟨gb316,0,none⟩) (Kd.R_types HO315.out BK316.out (by decide)) (fun _ hk => hk.2) (.string t308)) (fun _ hk => hk.2) (.int .i64 t309)) (fun _ hk => hk.2) (.slice Ao122 t310.length co122)) (fun _ hk => hk.2) (.slice Ao123 t313.length co123)) (fun _ h_ => h_.1))) hb);have n6_:=Aside0.mk (blk_below (g:=gb290) (o:=.cells #[.string a1_0,.int .i64 a1_1,.slice A1_2 l1_2.length c1_2,.slice A1_3 l1_3.length c1_3] 39 (0,0)) (by (with_reducible repeat (first | refine blk_drewN ?_ _ | refine blk_drew ?_ | refine blk_alloc ?_ _));refine blk_far ?_ NB290_316.out _;(with_reducible repeat (first | refine blk_drewN ?_ _ | refine blk_drew ?_ | refine blk_alloc ?_ _));refine blk_far ?_ NB290_316.out _;(with_reducible repeat (first | refine blk_drewN ?_ _ | refine blk_drew ?_ | refine blk_alloc ?_ _));refine blk_far ?_ NB290_316.out _;(with_reducible repeat (first | refine blk_drewN ?_ _ | refine blk_drew ?_ | refine blk_alloc ?_ _));refine blk_far ?_ NB290_316.out _;(with_reducible repeat (first | refine blk_drewN ?_ _ | refine blk_drew ?_ | refine blk_alloc ?_ _));exact BK290.out) hb);have n7_:=Aside0.mk (blk_below (g:=gb316) (o:=.cells #[.string t308,.int .i64 t309,.slice Ao122 t310.length co122,.slice Ao123 t313.length co123] 27 (0,0)) (by (with_reducible repeat (first | refine blk_drewN ?_ _ | refine blk_drew ?_ | refine blk_alloc ?_ _));refine blk_put (cs:=#[.string t308,.int .i64 t309,.slice Ao122 t310.length co122,.slice none 0 0]) ?_ 3 _ rfl;(with_reducible repeat (first | refine blk_drewN ?_ _ | refine blk_drew ?_ | refine blk_alloc ?_ _));refine blk_put (cs:=#[.string t308,.int .i64 t309,.slice none 0 0,.slice none 0 0]) ?_ 2 _ rfl;(with_reducible repeat (first | refine blk_drewN ?_ _ | refine blk_drew ?_ | refine blk_alloc ?_ _));refine blk_put (cs:=#[.string t308,.int .i64 0,.slice none 0 0,.slice none 0 0]) ?_ 1 _ rfl;(with_reducible repeat (first | refine blk_drewN ?_ _ | refine blk_drew ?_ | refine blk_alloc ?_ _));refine blk_put (cs:=#[.string (⟨#[]⟩ : ByteArray),.int .i64 0,.slice none 0 0,.slice none 0 0]) ?_ 0 _ rfl;(with_reducible repeat (first | refine blk_drewN ?_ _ | refine blk_drew ?_ | refine blk_alloc ?_ _));exact BK316.out) hb);have n8_:=Aside0.mk (below_step (by repeat (first | (with_reducible first | exact HB.out | apply below_alloc | apply pw_below_drewN | apply below_drew1 | refine below_set ?_ GE290.out | refine below_set ?_ GE316.out) | exact HB.out)) hb);clear HO295;clear HO300;clear HO303;clear HO307;clear HO312;clear HO315;clear BK290;clear BK316;clear HB;have HO295:=n0_;have HO300:=n1_;have HO303:=n2_;have HO307:=n3_;have HO312:=n4_;have HO315:=n5_;have BK290:=n6_;have BK316:=n7_;have HB:=n8_;clear n0_ n1_ n2_ n3_ n4_ n5_ n6_ n7_ n8_;(try clear hb);(try clear hb2);(try clear hk);(try clear hi)) | ((with_reducible refine gate_callee (f:=21) rfl ?_);refine goesL_ (some 37) rfl rfl Try.func21 (by kernel_rfl) rfl #[.slice A0 l0.length c0] rfl (by (try simp only [List.map_toArray,List.map_cons,List.map_nil]);first | done | rfl | (simp only [List.length_drop,List.length_take];rfl)) ?_;(with_reducible refine (laws_toRecordSS.calls k _ _ l0 t318 _ ?side1 ?side2 A41.out).mono ?_);(case side1 => repeat (first | exact (Kd.C_below HR0.out HB.out) | (with_reducible refine Kd.C_alloc ?_ _) | (with_reducible refine Kd.C_drewN ?_ _) | (with_reducible refine Kd.C_drew ?_)));(case side2 => exact HC0.out);rintro e w126 ⟨v319,rfl,ho0,hb⟩;refine ⟨_,rfl,?_⟩;have n0_:=Aside0.mk (Kd.R_elder' (Up.Rup HO295) (Kd.R_base ho0) hb);have n1_:=Up.RB HO300 hb;have n2_:=Up.RB HO303 hb;have n3_:=Aside0.mk (Kd.R_elder' (Up.Rup HO307) (Kd.R_base ho0) hb);have n4_:=Up.RB HO312 hb;have n5_:=Up.RB HO315 hb;have n6_:=Aside0.mk (Kd.R_lower (Kd.R_new' (Kd.R_new' ho0 (Kd.R_lt (Up.Rup HO295))) (Kd.R_lt (Up.Rup HO307))) (below_size (by repeat (first | (with_reducible first | exact HB.out | apply below_alloc | apply pw_below_drewN | apply below_drew1 | refine below_set ?_ GE290.out | refine below_set ?_ GE316.out) | exact HB.out))));have n7_:=Up.KB BK290 hb;have n8_:=Up.KB BK316 hb;have n9_:=Aside0.mk (below_step (by repeat (first | (with_reducible first | exact HB.out | apply below_alloc | apply pw_below_drewN | apply below_drew1 | refine below_set ?_ GE290.out | refine below_set ?_ GE316.out) | exact HB.out)) hb);clear HO295;clear HO300;clear HO303;clear HO307;clear HO312;clear HO315;clear BK290;clear BK316;clear HB;have HO295:=n0_;have HO300:=n1_;have HO303:=n2_;have HO307:=n3_;have HO312:=n4_;have HO315:=n5_;have HO320:=n6_;have BK290:=n7_;have BK316:=n8_;have HB:=n9_;clear n0_ n1_ n2_ n3_ n4_ n5_ n6_ n7_ n8_ n9_;(try clear hb);(try clear hb2);(try clear hk);(try clear hi);(try clear ho0);obtain ⟨Ao127,co127,eo127⟩:=Kd.R_slice HO320.out;subst eo127) | ((with_reducible refine gate_callee (f:=23) rfl ?_);refine goesL_ (some 38) rfl rfl Try.func23 (by kernel_rfl) rfl #[.slice Ao124 t305.length co124,.slice Ao127 t318.length co127] rfl (by (try simp only [List.map_toArray,List.map_cons,List.map_nil]);first | done | rfl | (simp only [List.length_drop,List.length_take];rfl)) ?_;(with_reducible refine (laws_eqRecordSS.calls k _ _ t305 _ _ t318 false _ ?side1 ?side2 ?side3 ?side4 A42.out).mono ?_);(case side1 => repeat (first | exact (Kd.R_reads' HO307.out).2.2 | (with_reducible refine Kd.C_alloc ?_ _) | (with_reducible refine Kd.C_drewN ?_ _) | (with_reducible refine Kd.C_drew ?_)));(case side2 => exact (Kd.R_reads' HO307.out).2.1);(case side3 => repeat (first | exact (Kd.R_reads' HO320.out).2.2 | (with_reducible refine Kd.C_alloc ?_ _) | (with_reducible refine Kd.C_drewN ?_ _) | (with_reducible refine Kd.C_drew ?_)));(case side4 => exact (Kd.R_reads' HO320.out).2.1);rintro e w128 ⟨rfl,hb⟩;refine ⟨_,rfl,?_⟩;have n0_:=Up.RB HO295 hb;have n1_:=Up.RB HO300 hb;have n2_:=Up.RB HO303 hb;have n3_:=Up.RB HO307 hb;have n4_:=Up.RB HO312 hb;have n5_:=Up.RB HO315 hb;have n6_:=Up.RB HO320 hb;have n7_:=Up.KB BK290 hb;have n8_:=Up.KB BK316 hb;have n9_:=Aside0.mk (below_step (by repeat (first | (with_reducible first | exact HB.out | apply below_alloc | apply pw_below_drewN | apply below_drew1 | refine below_set ?_ GE290.out | refine below_set ?_ GE316.out) | exact HB.out)) hb);clear HO295;clear HO300;clear HO303;clear HO307;clear HO312;clear HO315;clear HO320;clear BK290;clear BK316;clear HB;have HO295:=n0_;have HO300:=n1_;have HO303:=n2_;have HO307:=n3_;have HO312:=n4_;have HO315:=n5_;have HO320:=n6_;have BK290:=n7_;have BK316:=n8_;have HB:=n9_;clear n0_ n1_ n2_ n3_ n4_ n5_ n6_ n7_ n8_ n9_;(try clear hb);(try clear hb2);(try clear hk);(try clear hi)))
     go_ret
     exact ⟨by first | rfl | (simp [errW_none,errW_some] <;> rfl) | (simp [*,errW_none,errW_some] <;> rfl),by repeat (first | (with_reducible first | exact HB.out | apply below_alloc | apply pw_below_drewN | apply below_drew1 | refine below_set ?_ GE290.out | refine below_set ?_ GE316.out) | exact HB.out)⟩

end Go.Proofs.Ytdgmlakgnbmbbaa.OFnExactValueOk
