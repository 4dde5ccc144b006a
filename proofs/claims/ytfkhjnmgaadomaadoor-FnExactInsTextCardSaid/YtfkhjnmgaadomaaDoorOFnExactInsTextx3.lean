-- Laid by a program of this session (wip/myprint.py): the kit's print of the functions, contracts of our own among them.
import Derived.Test.YtfkhjnmgaadomaaDoorOFnExactInsTextx0
import Derived.Test.YtfkhjnmgaadomaaDoorOFnExactInsTextx1
import Derived.Test.YtfkhjnmgaadomaaDoorOFnExactInsTextx2
namespace Go.Proofs.YtfkhjnmgaadomaaDoor.OFnExactInsText
open Go.RowKit Go.Proofs.YtfkhjnmgaadomaaDoorW.PrintWords Go.Proofs.YtfkhjnmgaadomaaDoorW.PrintLast Go.Proofs.YtfkhjnmgaadomaaDoorW.PrintMore
attribute [local go_sem] max2_int min2_int max_two min_two max_three min_three max_four min_four   -- for this text's walks alone
set_option linter.unusedVariables false
set_option linter.unusedSimpArgs false

/-! ### laws_FnExactInsText: function 6 -/
def laws_FnExactInsText.f (k : Nat) (a0_0 : ByteArray) (a0_1 : Int) (a0_2 : Int) : Option (Bool):=(laws_szIns.f a0_0 a0_1 a0_2 1048576).bind fun t211 => (if t211 < 0 then (some true) else ((laws_toIns.f a0_0 a0_1 a0_2).bind fun bt212 => ((spec_InsText.f k bt212.1 bt212.2.1 bt212.2.2).bind fun t215 => ((laws_toIns.f a0_0 a0_1 a0_2).bind fun bt216 => ((impl_InsText.f k bt216.1 bt216.2.1 bt216.2.2).bind fun t219 => (if t219.toList = t215.toList then (some true) else (some false)))))))
theorem laws_FnExactInsText.mono : ∀ a0 a1 a2 k,LeO (laws_FnExactInsText.f k a0 a1 a2) (laws_FnExactInsText.f (k + 1) a0 a1 a2):=by
 intro a0 a1 a2 k
 unfold laws_FnExactInsText.f
 repeat' first
   | (with_reducible exact impl_InsText.mono _ _ _ _)
   | (with_reducible exact spec_InsText.mono _ _ _ _)
   | (with_reducible exact LeO.refl _)
   | (with_reducible exact LeO.none _)
   | (with_reducible refine LeO.ite ?_ ?_)
   | (with_reducible refine LeO.bind ?_ (fun _ => ?_))
   | exact impl_InsText.mono _ _ _ _
   | exact spec_InsText.mono _ _ _ _
   | exact LeO.none _
   | refine LeO.ite ?_ ?_
   | refine LeO.bind ?_ (fun _ => ?_)
set_option maxHeartbeats 8000000 in
set_option maxRecDepth 100000 in
theorem laws_FnExactInsText.calls (k : Nat) (a0_0 : ByteArray) (a0_1 : Int) (a0_2 : Int) (r : Bool) (w : World) (hT_ : Tab w) (h : laws_FnExactInsText.f k a0_0 a0_1 a0_2 = some r) :
  Calls Tryd.prog 6 #[.agg #[.string a0_0,.int .i64 a0_1,.int .i64 a0_2]] w fun e w' => e = .returned (.bool r) ∧ Below w.heap.size w w':=by
 have hu23:=Tryd.underlying23
 have HB:=Aside0.mk (Below.refl w.heap.size w)
 have H : ((laws_szIns.f a0_0 a0_1 a0_2 1048576).bind fun t211 => (if t211 < 0 then (some true) else ((laws_toIns.f a0_0 a0_1 a0_2).bind fun bt212 => ((spec_InsText.f k bt212.1 bt212.2.1 bt212.2.2).bind fun t215 => ((laws_toIns.f a0_0 a0_1 a0_2).bind fun bt216 => ((impl_InsText.f k bt216.1 bt216.2.1 bt216.2.2).bind fun t219 => (if t219.toList = t215.toList then (some true) else (some false)))))))) = some r:=h
 clear h
 replace H:=Option.bind_eq_some_iff.mp H
 obtain ⟨t211,A20,H⟩:=H
 replace H : (if t211 < 0 then (some true) else ((laws_toIns.f a0_0 a0_1 a0_2).bind fun bt212 => ((spec_InsText.f k bt212.1 bt212.2.1 bt212.2.2).bind fun t215 => ((laws_toIns.f a0_0 a0_1 a0_2).bind fun bt216 => ((impl_InsText.f k bt216.1 bt216.2.1 bt216.2.2).bind fun t219 => (if t219.toList = t215.toList then (some true) else (some false))))))) = some r:=H
 have A2:=Aside0.mk A20
 clear A20
 by_cases c3 : t211 < 0
 ·rw [if_pos c3] at H
  have c3b0 : decide (t211 < 0) = true:=decide_eq_true c3
  clear c3
  obtain rfl:=Option.some.inj H
  go_enter Tryd.func6,Tryd.ntmps6
  go_wp2_with (first | ((with_reducible refine gate_dst (N:=1) rfl ?_);refine Up.bx 1 23 #[.string a0_0,.int .i64 a0_1,.int .i64 a0_2] ?_;intro gb210 hg w4 hbox hb;have n0_:=Up.BB HB hb;have n1_:=Aside0.mk (hbox);have n2_:=Up.gw hg HB;have n3_:=Up.gw hg HB;clear HB;have HB:=n0_;have BK210:=n1_;have GW210:=n2_;have GE210:=n3_;clear n0_ n1_ n2_ n3_ hb hbox hg;have hcz5_0:=Up.c0 BK210;have hcz5_1:=Up.c1 BK210;have hcz5_2:=Up.c2 BK210;have hfz5_0:=blk_frozen BK210.out 0;have hfz5_1:=blk_frozen BK210.out 1;have hfz5_2:=blk_frozen BK210.out 2) | ((with_reducible refine gate_callee (f:=11) rfl ?_);refine Up.gl (some 8) Tryd.func11 #[.agg #[.string a0_0,.int .i64 a0_1,.int .i64 a0_2],.int .i64 1048576] ?_;(with_reducible refine (laws_szIns.calls a0_0 a0_1 a0_2 1048576 t211 _ A2.out).mono ?_);rintro e w6 ⟨rfl,hb⟩;refine ⟨_,rfl,?_⟩;have n0_:=Up.KB BK210 hb;have n1_:=Aside0.mk (below_step (Up.Bx HB) hb);clear BK210 HB;have BK210:=n0_;have HB:=n1_;clear n0_ n1_;(try clear hb);(try clear hb2);(try clear hk);(try clear hi)))
  go_ret
  exact Up.e1 (Up.Bx HB)
 ·rw [if_neg c3] at H
  have c3b0 : decide (t211 < 0) = false:=decide_eq_false c3
  clear c3
  replace H:=Option.bind_eq_some_iff.mp H
  obtain ⟨⟨t212,t213,t214⟩,A70,H⟩:=H
  replace H : ((spec_InsText.f k t212 t213 t214).bind fun t215 => ((laws_toIns.f a0_0 a0_1 a0_2).bind fun bt216 => ((impl_InsText.f k bt216.1 bt216.2.1 bt216.2.2).bind fun t219 => (if t219.toList = t215.toList then (some true) else (some false))))) = some r:=H
  have A7:=Aside0.mk A70
  clear A70
  replace H:=Option.bind_eq_some_iff.mp H
  obtain ⟨t215,A80,H⟩:=H
  replace H : ((laws_toIns.f a0_0 a0_1 a0_2).bind fun bt216 => ((impl_InsText.f k bt216.1 bt216.2.1 bt216.2.2).bind fun t219 => (if t219.toList = t215.toList then (some true) else (some false)))) = some r:=H
  have A8:=Aside0.mk A80
  clear A80
  replace H:=Option.bind_eq_some_iff.mp H
  obtain ⟨⟨t216,t217,t218⟩,A90,H⟩:=H
  replace H : ((impl_InsText.f k t216 t217 t218).bind fun t219 => (if t219.toList = t215.toList then (some true) else (some false))) = some r:=H
  have A9:=Aside0.mk A90
  clear A90
  replace H:=Option.bind_eq_some_iff.mp H
  obtain ⟨t219,A100,H⟩:=H
  replace H : (if t219.toList = t215.toList then (some true) else (some false)) = some r:=H
  have A10:=Aside0.mk A100
  clear A100
  by_cases c11 : t219.toList = t215.toList
  ·rw [if_pos c11] at H
   have c11b0 : (t219.toList == t215.toList) = true:=beq_iff_eq.mpr c11
   have c11b1 : (t219.toList != t215.toList) = false:=bne_eq_false_iff_eq.mpr c11
   clear c11
   obtain rfl:=Option.some.inj H
   go_enter Tryd.func6,Tryd.ntmps6
   go_wp2_with (first | ((with_reducible refine gate_dst (N:=1) rfl ?_);refine Up.bx 1 23 #[.string a0_0,.int .i64 a0_1,.int .i64 a0_2] ?_;intro gb210 hg w12 hbox hb;have n0_:=Up.BB HB hb;have n1_:=Aside0.mk (hbox);have n2_:=Up.gw hg HB;have n3_:=Up.gw hg HB;clear HB;have HB:=n0_;have BK210:=n1_;have GW210:=n2_;have GE210:=n3_;clear n0_ n1_ n2_ n3_ hb hbox hg;have hcz13_0:=Up.c0 BK210;have hcz13_1:=Up.c1 BK210;have hcz13_2:=Up.c2 BK210;have hfz13_0:=blk_frozen BK210.out 0;have hfz13_1:=blk_frozen BK210.out 1;have hfz13_2:=blk_frozen BK210.out 2) | ((with_reducible refine gate_callee (f:=11) rfl ?_);refine Up.gl (some 8) Tryd.func11 #[.agg #[.string a0_0,.int .i64 a0_1,.int .i64 a0_2],.int .i64 1048576] ?_;(with_reducible refine (laws_szIns.calls a0_0 a0_1 a0_2 1048576 t211 _ A2.out).mono ?_);rintro e w14 ⟨rfl,hb⟩;refine ⟨_,rfl,?_⟩;have n0_:=Up.KB BK210 hb;have n1_:=Aside0.mk (below_step (Up.Bx HB) hb);clear BK210 HB;have BK210:=n0_;have HB:=n1_;clear n0_ n1_;(try clear hb);(try clear hb2);(try clear hk);(try clear hi);have hcz15_0:=Up.c0 BK210;have hcz15_1:=Up.c1 BK210;have hcz15_2:=Up.c2 BK210;have hfz15_0:=blk_frozen BK210.out 0;have hfz15_1:=blk_frozen BK210.out 1;have hfz15_2:=blk_frozen BK210.out 2) | ((with_reducible refine gate_callee (f:=13) rfl ?_);refine Up.gl (some 12) Tryd.func13 #[.agg #[.string a0_0,.int .i64 a0_1,.int .i64 a0_2]] ?_;(with_reducible refine (laws_toIns.calls a0_0 a0_1 a0_2 t212 t213 t214 _ A7.out).mono ?_);rintro e w16 ⟨rfl,hb⟩;refine ⟨_,rfl,?_⟩;have n0_:=Up.KB BK210 hb;have n1_:=Aside0.mk (below_step (Up.Bx HB) hb);clear BK210 HB;have BK210:=n0_;have HB:=n1_;clear n0_ n1_;(try clear hb);(try clear hb2);(try clear hk);(try clear hi)) | ((with_reducible refine gate_callee (f:=22) rfl ?_);refine Up.gl (some 13) Tryd.func22 #[.agg #[.string t212,.int .i64 t213,.int .i64 t214]] ?_;(with_reducible refine (spec_InsText.calls k t212 t213 t214 t215 _ A8.out).mono ?_);rintro e w17 ⟨rfl,hb⟩;refine ⟨_,rfl,?_⟩;have n0_:=Up.KB BK210 hb;have n1_:=Aside0.mk (below_step (Up.Bx HB) hb);clear BK210 HB;have BK210:=n0_;have HB:=n1_;clear n0_ n1_;(try clear hb);(try clear hb2);(try clear hk);(try clear hi);have hcz18_0:=Up.c0 BK210;have hcz18_1:=Up.c1 BK210;have hcz18_2:=Up.c2 BK210;have hfz18_0:=blk_frozen BK210.out 0;have hfz18_1:=blk_frozen BK210.out 1;have hfz18_2:=blk_frozen BK210.out 2) | ((with_reducible refine gate_callee (f:=13) rfl ?_);refine Up.gl (some 15) Tryd.func13 #[.agg #[.string a0_0,.int .i64 a0_1,.int .i64 a0_2]] ?_;(with_reducible refine (laws_toIns.calls a0_0 a0_1 a0_2 t216 t217 t218 _ A9.out).mono ?_);rintro e w19 ⟨rfl,hb⟩;refine ⟨_,rfl,?_⟩;have n0_:=Up.KB BK210 hb;have n1_:=Aside0.mk (below_step (Up.Bx HB) hb);clear BK210 HB;have BK210:=n0_;have HB:=n1_;clear n0_ n1_;(try clear hb);(try clear hb2);(try clear hk);(try clear hi)) | ((with_reducible refine gate_callee (f:=23) rfl ?_);refine Up.gl (some 16) Tryd.func23 #[.agg #[.string t216,.int .i64 t217,.int .i64 t218]] ?_;(with_reducible refine (impl_InsText.calls (hT_:=?tab1) k t216 t217 t218 t219 _ A10.out).mono ?_);(case tab1 => exact hT_.below (Up.Bx HB));rintro e w20 ⟨rfl,hb⟩;refine ⟨_,rfl,?_⟩;have n0_:=Up.KB BK210 hb;have n1_:=Aside0.mk (below_step (Up.Bx HB) hb);clear BK210 HB;have BK210:=n0_;have HB:=n1_;clear n0_ n1_;(try clear hb);(try clear hb2);(try clear hk);(try clear hi)))
   go_ret
   exact Up.e1 (Up.Bx HB)
  ·rw [if_neg c11] at H
   have c11b0 : (t219.toList == t215.toList) = false:=beq_eq_false_iff_ne.mpr c11
   have c11b1 : (t219.toList != t215.toList) = true:=bne_iff_ne.mpr c11
   obtain rfl:=Option.some.inj H
   go_enter Tryd.func6,Tryd.ntmps6
   go_wp2_with (first | ((with_reducible refine gate_dst (N:=1) rfl ?_);refine Up.bx 1 23 #[.string a0_0,.int .i64 a0_1,.int .i64 a0_2] ?_;intro gb210 hg w21 hbox hb;have n0_:=Up.BB HB hb;have n1_:=Aside0.mk (hbox);have n2_:=Up.gw hg HB;have n3_:=Up.gw hg HB;clear HB;have HB:=n0_;have BK210:=n1_;have GW210:=n2_;have GE210:=n3_;clear n0_ n1_ n2_ n3_ hb hbox hg;have hcz22_0:=Up.c0 BK210;have hcz22_1:=Up.c1 BK210;have hcz22_2:=Up.c2 BK210;have hfz22_0:=blk_frozen BK210.out 0;have hfz22_1:=blk_frozen BK210.out 1;have hfz22_2:=blk_frozen BK210.out 2) | ((with_reducible refine gate_callee (f:=11) rfl ?_);refine Up.gl (some 8) Tryd.func11 #[.agg #[.string a0_0,.int .i64 a0_1,.int .i64 a0_2],.int .i64 1048576] ?_;(with_reducible refine (laws_szIns.calls a0_0 a0_1 a0_2 1048576 t211 _ A2.out).mono ?_);rintro e w23 ⟨rfl,hb⟩;refine ⟨_,rfl,?_⟩;have n0_:=Up.KB BK210 hb;have n1_:=Aside0.mk (below_step (Up.Bx HB) hb);clear BK210 HB;have BK210:=n0_;have HB:=n1_;clear n0_ n1_;(try clear hb);(try clear hb2);(try clear hk);(try clear hi);have hcz24_0:=Up.c0 BK210;have hcz24_1:=Up.c1 BK210;have hcz24_2:=Up.c2 BK210;have hfz24_0:=blk_frozen BK210.out 0;have hfz24_1:=blk_frozen BK210.out 1;have hfz24_2:=blk_frozen BK210.out 2) | ((with_reducible refine gate_callee (f:=13) rfl ?_);refine Up.gl (some 12) Tryd.func13 #[.agg #[.string a0_0,.int .i64 a0_1,.int .i64 a0_2]] ?_;(with_reducible refine (laws_toIns.calls a0_0 a0_1 a0_2 t212 t213 t214 _ A7.out).mono ?_);rintro e w25 ⟨rfl,hb⟩;refine ⟨_,rfl,?_⟩;have n0_:=Up.KB BK210 hb;have n1_:=Aside0.mk (below_step (Up.Bx HB) hb);clear BK210 HB;have BK210:=n0_;have HB:=n1_;clear n0_ n1_;(try clear hb);(try clear hb2);(try clear hk);(try clear hi)) | ((with_reducible refine gate_callee (f:=22) rfl ?_);refine Up.gl (some 13) Tryd.func22 #[.agg #[.string t212,.int .i64 t213,.int .i64 t214]] ?_;(with_reducible refine (spec_InsText.calls k t212 t213 t214 t215 _ A8.out).mono ?_);rintro e w26 ⟨rfl,hb⟩;refine ⟨_,rfl,?_⟩;have n0_:=Up.KB BK210 hb;have n1_:=Aside0.mk (below_step (Up.Bx HB) hb);clear BK210 HB;have BK210:=n0_;have HB:=n1_;clear n0_ n1_;(try clear hb);(try clear hb2);(try clear hk);(try clear hi);have hcz27_0:=Up.c0 BK210;have hcz27_1:=Up.c1 BK210;have hcz27_2:=Up.c2 BK210;have hfz27_0:=blk_frozen BK210.out 0;have hfz27_1:=blk_frozen BK210.out 1;have hfz27_2:=blk_frozen BK210.out 2) | ((with_reducible refine gate_callee (f:=13) rfl ?_);refine Up.gl (some 15) Tryd.func13 #[.agg #[.string a0_0,.int .i64 a0_1,.int .i64 a0_2]] ?_;(with_reducible refine (laws_toIns.calls a0_0 a0_1 a0_2 t216 t217 t218 _ A9.out).mono ?_);rintro e w28 ⟨rfl,hb⟩;refine ⟨_,rfl,?_⟩;have n0_:=Up.KB BK210 hb;have n1_:=Aside0.mk (below_step (Up.Bx HB) hb);clear BK210 HB;have BK210:=n0_;have HB:=n1_;clear n0_ n1_;(try clear hb);(try clear hb2);(try clear hk);(try clear hi)) | ((with_reducible refine gate_callee (f:=23) rfl ?_);refine Up.gl (some 16) Tryd.func23 #[.agg #[.string t216,.int .i64 t217,.int .i64 t218]] ?_;(with_reducible refine (impl_InsText.calls (hT_:=?tab1) k t216 t217 t218 t219 _ A10.out).mono ?_);(case tab1 => exact hT_.below (Up.Bx HB));rintro e w29 ⟨rfl,hb⟩;refine ⟨_,rfl,?_⟩;have n0_:=Up.KB BK210 hb;have n1_:=Aside0.mk (below_step (Up.Bx HB) hb);clear BK210 HB;have BK210:=n0_;have HB:=n1_;clear n0_ n1_;(try clear hb);(try clear hb2);(try clear hk);(try clear hi)))
   go_ret
   exact Up.e1 (Up.Bx HB)

end Go.Proofs.YtfkhjnmgaadomaaDoor.OFnExactInsText
