-- Laid by a program of this session (wip/myprint.py): the kit's print of the functions, contracts of our own among them.
import Derived.Test.YtfkhjnmgaadomaaDoorOFnExactInsOkx0
import Derived.Test.YtfkhjnmgaadomaaDoorOFnExactInsOkx1
namespace Go.Proofs.YtfkhjnmgaadomaaDoor.OFnExactInsOk
open Go.RowKit Go.Proofs.YtfkhjnmgaadomaaDoorW.PrintWords Go.Proofs.YtfkhjnmgaadomaaDoorW.PrintLast Go.Proofs.YtfkhjnmgaadomaaDoorW.PrintMore
attribute [local go_sem] max2_int min2_int max_two min_two max_three min_three max_four min_four   -- for this text's walks alone
set_option linter.unusedVariables false
set_option linter.unusedSimpArgs false

/-! ### impl_InsOk: function 14 -/
def impl_InsOk.f (k : Nat) (a0_0 : ByteArray) (a0_1 : Int) (a0_2 : Int) : Option (Bool):=(impl_formOf.f k a0_0).bind fun bt174 => (if bt174.2.2.2 = true then ((impl_limitOk.f bt174.2.1 a0_1).bind fun t179 => (if t179 = true then ((impl_limitOk.f bt174.2.2.1 a0_2).bind fun t180 => (some t180)) else (some false))) else (some false))
theorem impl_InsOk.mono : ∀ a0 a1 a2 k,LeO (impl_InsOk.f k a0 a1 a2) (impl_InsOk.f (k + 1) a0 a1 a2):=by
 intro a0 a1 a2 k
 unfold impl_InsOk.f
 repeat' first
   | (with_reducible exact impl_formOf.mono _ _)
   | (with_reducible exact LeO.refl _)
   | (with_reducible exact LeO.none _)
   | (with_reducible refine LeO.ite ?_ ?_)
   | (with_reducible refine LeO.bind ?_ (fun _ => ?_))
   | exact impl_formOf.mono _ _
   | exact LeO.none _
   | refine LeO.ite ?_ ?_
   | refine LeO.bind ?_ (fun _ => ?_)
set_option maxHeartbeats 8000000 in
set_option maxRecDepth 100000 in
theorem impl_InsOk.calls (k : Nat) (a0_0 : ByteArray) (a0_1 : Int) (a0_2 : Int) (r : Bool) (w : World) (hT_ : Tab w) (h : impl_InsOk.f k a0_0 a0_1 a0_2 = some r) :
  Calls Tryd.prog 14 #[.agg #[.string a0_0,.int .i64 a0_1,.int .i64 a0_2]] w fun e w' => e = .returned (.bool r) ∧ Below w.heap.size w w':=by
 have hu26:=Tryd.underlying26
 have hu46:=Tryd.underlying46
 have HB:=Aside0.mk (Below.refl w.heap.size w)
 have H : ((impl_formOf.f k a0_0).bind fun bt174 => (if bt174.2.2.2 = true then ((impl_limitOk.f bt174.2.1 a0_1).bind fun t179 => (if t179 = true then ((impl_limitOk.f bt174.2.2.1 a0_2).bind fun t180 => (some t180)) else (some false))) else (some false))) = some r:=h
 clear h
 replace H:=Option.bind_eq_some_iff.mp H
 obtain ⟨⟨t174,t175,t176,t177⟩,A20,H⟩:=H
 replace H : (if t177 = true then ((impl_limitOk.f t175 a0_1).bind fun t179 => (if t179 = true then ((impl_limitOk.f t176 a0_2).bind fun t180 => (some t180)) else (some false))) else (some false)) = some r:=H
 have A2:=Aside0.mk A20
 clear A20
 by_cases c3 : t177 = true
 ·subst c3
  have H1 : ((impl_limitOk.f t175 a0_1).bind fun t179 => (if t179 = true then ((impl_limitOk.f t176 a0_2).bind fun t180 => (some t180)) else (some false))) = some r:=by rw [if_pos rfl] at H;exact H
  clear H
  have H:=H1
  clear H1
  replace H:=Option.bind_eq_some_iff.mp H
  obtain ⟨t179,A40,H⟩:=H
  replace H : (if t179 = true then ((impl_limitOk.f t176 a0_2).bind fun t180 => (some t180)) else (some false)) = some r:=H
  have A4:=Aside0.mk A40
  clear A40
  by_cases c5 : t179 = true
  ·subst c5
   have H1 : ((impl_limitOk.f t176 a0_2).bind fun t180 => (some t180)) = some r:=by rw [if_pos rfl] at H;exact H
   clear H
   have H:=H1
   clear H1
   replace H:=Option.bind_eq_some_iff.mp H
   obtain ⟨t180,A60,H⟩:=H
   replace H : (some t180) = some r:=H
   have A6:=Aside0.mk A60
   clear A60
   obtain rfl:=Option.some.inj H
   go_enter Tryd.func14,Tryd.ntmps14
   go_wp2_with (first | ((with_reducible refine gate_dst (N:=1) rfl ?_);refine Up.bx 1 26 #[.string a0_0,.int .i64 a0_1,.int .i64 a0_2] ?_;intro gb173 hg w7 hbox hb;have n0_:=Up.BB HB hb;have n1_:=Aside0.mk (hbox);have n2_:=Up.gw hg HB;have n3_:=Up.gw hg HB;clear HB;have HB:=n0_;have BK173:=n1_;have GW173:=n2_;have GE173:=n3_;clear n0_ n1_ n2_ n3_ hb hbox hg;have hcz8_0:=Up.c0 BK173;have hcz8_1:=Up.c1 BK173;have hcz8_2:=Up.c2 BK173;have hfz8_0:=blk_frozen BK173.out 0;have hfz8_1:=blk_frozen BK173.out 1;have hfz8_2:=blk_frozen BK173.out 2) | ((with_reducible refine gate_callee (f:=32) rfl ?_);refine Up.gl (some 8) Tryd.func32 #[.string a0_0] ?_;(with_reducible refine (impl_formOf.calls (hT_:=?tab1) k a0_0 t174 t175 t176 true _ A2.out).mono ?_);(case tab1 => exact hT_.below (Up.Bx HB));rintro e w9 ⟨rfl,hb⟩;refine ⟨_,rfl,?_⟩;have n0_:=Up.KB BK173 hb;have n1_:=Aside0.mk (below_step (Up.Bx HB) hb);clear BK173 HB;have BK173:=n0_;have HB:=n1_;clear n0_ n1_;(try clear hb);(try clear hb2);(try clear hk);(try clear hi)) | ((with_reducible refine gate_dst (N:=3) rfl ?_);refine Up.bx 3 46 #[.string (⟨#[]⟩ : ByteArray),.int .i64 0,.int .i64 0] ?_;intro gb178 hg w10 hbox hb;have n0_:=Up.KB BK173 hb;have n1_:=Aside0.mk (below_step (Up.Bx HB) hb);have n2_:=Aside0.mk (hbox);have n3_:=Up.gw hg HB;have n4_:=Up.gw hg HB;have n5_:=Up.nl hg BK173;have n6_:=Up.ng hg BK173;clear BK173 HB;have BK173:=n0_;have HB:=n1_;have BK178:=n2_;have GW178:=n3_;have GE178:=n4_;have NB173_178:=n5_;have NB178_173:=n6_;clear n0_ n1_ n2_ n3_ n4_ n5_ n6_ hb hbox hg;have hnb11:=NB178_173.out;have hnc11:=NB173_178.out;have hcz12_0:=Up.c0 BK178;have hcz12_1:=Up.c1 BK178;have hcz12_2:=Up.c2 BK178;have hfz12_0:=blk_frozen BK178.out 0;have hfz12_1:=blk_frozen BK178.out 1;have hfz12_2:=blk_frozen BK178.out 2;have hcz13_0:=Up.c0 BK173;have hcz13_1:=Up.c1 BK173;have hcz13_2:=Up.c2 BK173;have hfz13_0:=blk_frozen BK173.out 0;have hfz13_1:=blk_frozen BK173.out 1;have hfz13_2:=blk_frozen BK173.out 2) | (go_at_call 33;(with_reducible refine (impl_limitOk.calls t175 a0_1 true _ A4.out).mono ?_);rintro e w' ⟨rfl,⟨nd,rfl⟩⟩) | (go_at_call 33;(with_reducible refine (impl_limitOk.calls t176 a0_2 t180 _ A6.out).mono ?_);rintro e w' ⟨rfl,⟨nd,rfl⟩⟩))
   go_ret
   exact Up.e1 (Up.Bx HB)
  ·replace c5:=Bool.eq_false_iff.mpr c5
   subst c5
   have H1 : (some false) = some r:=by rw [if_neg (show ¬ (false = true) by decide)] at H;exact H
   clear H
   have H:=H1
   clear H1
   obtain rfl:=Option.some.inj H
   go_enter Tryd.func14,Tryd.ntmps14
   go_wp2_with (first | ((with_reducible refine gate_dst (N:=1) rfl ?_);refine Up.bx 1 26 #[.string a0_0,.int .i64 a0_1,.int .i64 a0_2] ?_;intro gb173 hg w14 hbox hb;have n0_:=Up.BB HB hb;have n1_:=Aside0.mk (hbox);have n2_:=Up.gw hg HB;have n3_:=Up.gw hg HB;clear HB;have HB:=n0_;have BK173:=n1_;have GW173:=n2_;have GE173:=n3_;clear n0_ n1_ n2_ n3_ hb hbox hg;have hcz15_0:=Up.c0 BK173;have hcz15_1:=Up.c1 BK173;have hcz15_2:=Up.c2 BK173;have hfz15_0:=blk_frozen BK173.out 0;have hfz15_1:=blk_frozen BK173.out 1;have hfz15_2:=blk_frozen BK173.out 2) | ((with_reducible refine gate_callee (f:=32) rfl ?_);refine Up.gl (some 8) Tryd.func32 #[.string a0_0] ?_;(with_reducible refine (impl_formOf.calls (hT_:=?tab1) k a0_0 t174 t175 t176 true _ A2.out).mono ?_);(case tab1 => exact hT_.below (Up.Bx HB));rintro e w16 ⟨rfl,hb⟩;refine ⟨_,rfl,?_⟩;have n0_:=Up.KB BK173 hb;have n1_:=Aside0.mk (below_step (Up.Bx HB) hb);clear BK173 HB;have BK173:=n0_;have HB:=n1_;clear n0_ n1_;(try clear hb);(try clear hb2);(try clear hk);(try clear hi)) | ((with_reducible refine gate_dst (N:=3) rfl ?_);refine Up.bx 3 46 #[.string (⟨#[]⟩ : ByteArray),.int .i64 0,.int .i64 0] ?_;intro gb178 hg w17 hbox hb;have n0_:=Up.KB BK173 hb;have n1_:=Aside0.mk (below_step (Up.Bx HB) hb);have n2_:=Aside0.mk (hbox);have n3_:=Up.gw hg HB;have n4_:=Up.gw hg HB;have n5_:=Up.nl hg BK173;have n6_:=Up.ng hg BK173;clear BK173 HB;have BK173:=n0_;have HB:=n1_;have BK178:=n2_;have GW178:=n3_;have GE178:=n4_;have NB173_178:=n5_;have NB178_173:=n6_;clear n0_ n1_ n2_ n3_ n4_ n5_ n6_ hb hbox hg;have hnb18:=NB178_173.out;have hnc18:=NB173_178.out;have hcz19_0:=Up.c0 BK178;have hcz19_1:=Up.c1 BK178;have hcz19_2:=Up.c2 BK178;have hfz19_0:=blk_frozen BK178.out 0;have hfz19_1:=blk_frozen BK178.out 1;have hfz19_2:=blk_frozen BK178.out 2;have hcz20_0:=Up.c0 BK173;have hcz20_1:=Up.c1 BK173;have hcz20_2:=Up.c2 BK173;have hfz20_0:=blk_frozen BK173.out 0;have hfz20_1:=blk_frozen BK173.out 1;have hfz20_2:=blk_frozen BK173.out 2) | (go_at_call 33;(with_reducible refine (impl_limitOk.calls t175 a0_1 false _ A4.out).mono ?_);rintro e w' ⟨rfl,⟨nd,rfl⟩⟩))
   go_ret
   exact Up.e1 (Up.Bx HB)
 ·replace c3:=Bool.eq_false_iff.mpr c3
  subst c3
  have H1 : (some false) = some r:=by rw [if_neg (show ¬ (false = true) by decide)] at H;exact H
  clear H
  have H:=H1
  clear H1
  obtain rfl:=Option.some.inj H
  go_enter Tryd.func14,Tryd.ntmps14
  go_wp2_with (first | ((with_reducible refine gate_dst (N:=1) rfl ?_);refine Up.bx 1 26 #[.string a0_0,.int .i64 a0_1,.int .i64 a0_2] ?_;intro gb173 hg w21 hbox hb;have n0_:=Up.BB HB hb;have n1_:=Aside0.mk (hbox);have n2_:=Up.gw hg HB;have n3_:=Up.gw hg HB;clear HB;have HB:=n0_;have BK173:=n1_;have GW173:=n2_;have GE173:=n3_;clear n0_ n1_ n2_ n3_ hb hbox hg;have hcz22_0:=Up.c0 BK173;have hcz22_1:=Up.c1 BK173;have hcz22_2:=Up.c2 BK173;have hfz22_0:=blk_frozen BK173.out 0;have hfz22_1:=blk_frozen BK173.out 1;have hfz22_2:=blk_frozen BK173.out 2) | ((with_reducible refine gate_callee (f:=32) rfl ?_);refine Up.gl (some 8) Tryd.func32 #[.string a0_0] ?_;(with_reducible refine (impl_formOf.calls (hT_:=?tab1) k a0_0 t174 t175 t176 false _ A2.out).mono ?_);(case tab1 => exact hT_.below (Up.Bx HB));rintro e w23 ⟨rfl,hb⟩;refine ⟨_,rfl,?_⟩;have n0_:=Up.KB BK173 hb;have n1_:=Aside0.mk (below_step (Up.Bx HB) hb);clear BK173 HB;have BK173:=n0_;have HB:=n1_;clear n0_ n1_;(try clear hb);(try clear hb2);(try clear hk);(try clear hi)) | ((with_reducible refine gate_dst (N:=3) rfl ?_);refine Up.bx 3 46 #[.string (⟨#[]⟩ : ByteArray),.int .i64 0,.int .i64 0] ?_;intro gb178 hg w24 hbox hb;have n0_:=Up.KB BK173 hb;have n1_:=Aside0.mk (below_step (Up.Bx HB) hb);have n2_:=Aside0.mk (hbox);have n3_:=Up.gw hg HB;have n4_:=Up.gw hg HB;have n5_:=Up.nl hg BK173;have n6_:=Up.ng hg BK173;clear BK173 HB;have BK173:=n0_;have HB:=n1_;have BK178:=n2_;have GW178:=n3_;have GE178:=n4_;have NB173_178:=n5_;have NB178_173:=n6_;clear n0_ n1_ n2_ n3_ n4_ n5_ n6_ hb hbox hg;have hnb25:=NB178_173.out;have hnc25:=NB173_178.out;have hcz26_0:=Up.c0 BK178;have hcz26_1:=Up.c1 BK178;have hcz26_2:=Up.c2 BK178;have hfz26_0:=blk_frozen BK178.out 0;have hfz26_1:=blk_frozen BK178.out 1;have hfz26_2:=blk_frozen BK178.out 2))
  go_ret
  exact Up.e1 (Up.Bx HB)

/-! ### laws_FnExactInsOk: function 3 -/
def laws_FnExactInsOk.f (k : Nat) (a0_0 : ByteArray) (a0_1 : Int) (a0_2 : Int) : Option (Bool):=(laws_szIns.f a0_0 a0_1 a0_2 1048576).bind fun t182 => (if t182 < 0 then (some true) else ((laws_toIns.f a0_0 a0_1 a0_2).bind fun bt183 => ((spec_InsOk.f k bt183.1 bt183.2.1 bt183.2.2).bind fun t186 => ((laws_toIns.f a0_0 a0_1 a0_2).bind fun bt187 => ((impl_InsOk.f k bt187.1 bt187.2.1 bt187.2.2).bind fun t190 => (if (t190 != t186) = true then (some false) else (some true)))))))
theorem laws_FnExactInsOk.mono : ∀ a0 a1 a2 k,LeO (laws_FnExactInsOk.f k a0 a1 a2) (laws_FnExactInsOk.f (k + 1) a0 a1 a2):=by
 intro a0 a1 a2 k
 unfold laws_FnExactInsOk.f
 repeat' first
   | (with_reducible exact impl_InsOk.mono _ _ _ _)
   | (with_reducible exact spec_InsOk.mono _ _ _ _)
   | (with_reducible exact LeO.refl _)
   | (with_reducible exact LeO.none _)
   | (with_reducible refine LeO.ite ?_ ?_)
   | (with_reducible refine LeO.bind ?_ (fun _ => ?_))
   | exact impl_InsOk.mono _ _ _ _
   | exact spec_InsOk.mono _ _ _ _
   | exact LeO.none _
   | refine LeO.ite ?_ ?_
   | refine LeO.bind ?_ (fun _ => ?_)
set_option maxHeartbeats 8000000 in
set_option maxRecDepth 100000 in
theorem laws_FnExactInsOk.calls (k : Nat) (a0_0 : ByteArray) (a0_1 : Int) (a0_2 : Int) (r : Bool) (w : World) (hT_ : Tab w) (h : laws_FnExactInsOk.f k a0_0 a0_1 a0_2 = some r) :
  Calls Tryd.prog 3 #[.agg #[.string a0_0,.int .i64 a0_1,.int .i64 a0_2]] w fun e w' => e = .returned (.bool r) ∧ Below w.heap.size w w':=by
 have hu23:=Tryd.underlying23
 have HB:=Aside0.mk (Below.refl w.heap.size w)
 have H : ((laws_szIns.f a0_0 a0_1 a0_2 1048576).bind fun t182 => (if t182 < 0 then (some true) else ((laws_toIns.f a0_0 a0_1 a0_2).bind fun bt183 => ((spec_InsOk.f k bt183.1 bt183.2.1 bt183.2.2).bind fun t186 => ((laws_toIns.f a0_0 a0_1 a0_2).bind fun bt187 => ((impl_InsOk.f k bt187.1 bt187.2.1 bt187.2.2).bind fun t190 => (if (t190 != t186) = true then (some false) else (some true)))))))) = some r:=h
 clear h
 replace H:=Option.bind_eq_some_iff.mp H
 obtain ⟨t182,A20,H⟩:=H
 replace H : (if t182 < 0 then (some true) else ((laws_toIns.f a0_0 a0_1 a0_2).bind fun bt183 => ((spec_InsOk.f k bt183.1 bt183.2.1 bt183.2.2).bind fun t186 => ((laws_toIns.f a0_0 a0_1 a0_2).bind fun bt187 => ((impl_InsOk.f k bt187.1 bt187.2.1 bt187.2.2).bind fun t190 => (if (t190 != t186) = true then (some false) else (some true))))))) = some r:=H
 have A2:=Aside0.mk A20
 clear A20
 by_cases c3 : t182 < 0
 ·rw [if_pos c3] at H
  have c3b0 : decide (t182 < 0) = true:=decide_eq_true c3
  clear c3
  obtain rfl:=Option.some.inj H
  go_enter Tryd.func3,Tryd.ntmps3
  go_wp2_with (first | ((with_reducible refine gate_dst (N:=1) rfl ?_);refine Up.bx 1 23 #[.string a0_0,.int .i64 a0_1,.int .i64 a0_2] ?_;intro gb181 hg w4 hbox hb;have n0_:=Up.BB HB hb;have n1_:=Aside0.mk (hbox);have n2_:=Up.gw hg HB;have n3_:=Up.gw hg HB;clear HB;have HB:=n0_;have BK181:=n1_;have GW181:=n2_;have GE181:=n3_;clear n0_ n1_ n2_ n3_ hb hbox hg;have hcz5_0:=Up.c0 BK181;have hcz5_1:=Up.c1 BK181;have hcz5_2:=Up.c2 BK181;have hfz5_0:=blk_frozen BK181.out 0;have hfz5_1:=blk_frozen BK181.out 1;have hfz5_2:=blk_frozen BK181.out 2) | ((with_reducible refine gate_callee (f:=11) rfl ?_);refine Up.gl (some 8) Tryd.func11 #[.agg #[.string a0_0,.int .i64 a0_1,.int .i64 a0_2],.int .i64 1048576] ?_;(with_reducible refine (laws_szIns.calls a0_0 a0_1 a0_2 1048576 t182 _ A2.out).mono ?_);rintro e w6 ⟨rfl,hb⟩;refine ⟨_,rfl,?_⟩;have n0_:=Up.KB BK181 hb;have n1_:=Aside0.mk (below_step (Up.Bx HB) hb);clear BK181 HB;have BK181:=n0_;have HB:=n1_;clear n0_ n1_;(try clear hb);(try clear hb2);(try clear hk);(try clear hi)))
  go_ret
  exact Up.e1 (Up.Bx HB)
 ·rw [if_neg c3] at H
  have c3b0 : decide (t182 < 0) = false:=decide_eq_false c3
  clear c3
  replace H:=Option.bind_eq_some_iff.mp H
  obtain ⟨⟨t183,t184,t185⟩,A70,H⟩:=H
  replace H : ((spec_InsOk.f k t183 t184 t185).bind fun t186 => ((laws_toIns.f a0_0 a0_1 a0_2).bind fun bt187 => ((impl_InsOk.f k bt187.1 bt187.2.1 bt187.2.2).bind fun t190 => (if (t190 != t186) = true then (some false) else (some true))))) = some r:=H
  have A7:=Aside0.mk A70
  clear A70
  replace H:=Option.bind_eq_some_iff.mp H
  obtain ⟨t186,A80,H⟩:=H
  replace H : ((laws_toIns.f a0_0 a0_1 a0_2).bind fun bt187 => ((impl_InsOk.f k bt187.1 bt187.2.1 bt187.2.2).bind fun t190 => (if (t190 != t186) = true then (some false) else (some true)))) = some r:=H
  have A8:=Aside0.mk A80
  clear A80
  replace H:=Option.bind_eq_some_iff.mp H
  obtain ⟨⟨t187,t188,t189⟩,A90,H⟩:=H
  replace H : ((impl_InsOk.f k t187 t188 t189).bind fun t190 => (if (t190 != t186) = true then (some false) else (some true))) = some r:=H
  have A9:=Aside0.mk A90
  clear A90
  replace H:=Option.bind_eq_some_iff.mp H
  obtain ⟨t190,A100,H⟩:=H
  replace H : (if (t190 != t186) = true then (some false) else (some true)) = some r:=H
  have A10:=Aside0.mk A100
  clear A100
  by_cases c11 : (t190 != t186) = true
  ·rw [if_pos c11] at H
   have c11b0 : (t190 != t186) = true:=c11
   (try (have c11b1 : decide (t190 = t186) = false:=by simpa using c11))
   (try (have c11b2 : (t190 == t186) = false:=by simpa using c11))
   (try (have c11b3 : ¬ (t190 = t186):=by simpa using c11))
   clear c11
   obtain rfl:=Option.some.inj H
   go_enter Tryd.func3,Tryd.ntmps3
   go_wp2_with (first | ((with_reducible refine gate_dst (N:=1) rfl ?_);refine Up.bx 1 23 #[.string a0_0,.int .i64 a0_1,.int .i64 a0_2] ?_;intro gb181 hg w12 hbox hb;have n0_:=Up.BB HB hb;have n1_:=Aside0.mk (hbox);have n2_:=Up.gw hg HB;have n3_:=Up.gw hg HB;clear HB;have HB:=n0_;have BK181:=n1_;have GW181:=n2_;have GE181:=n3_;clear n0_ n1_ n2_ n3_ hb hbox hg;have hcz13_0:=Up.c0 BK181;have hcz13_1:=Up.c1 BK181;have hcz13_2:=Up.c2 BK181;have hfz13_0:=blk_frozen BK181.out 0;have hfz13_1:=blk_frozen BK181.out 1;have hfz13_2:=blk_frozen BK181.out 2) | ((with_reducible refine gate_callee (f:=11) rfl ?_);refine Up.gl (some 8) Tryd.func11 #[.agg #[.string a0_0,.int .i64 a0_1,.int .i64 a0_2],.int .i64 1048576] ?_;(with_reducible refine (laws_szIns.calls a0_0 a0_1 a0_2 1048576 t182 _ A2.out).mono ?_);rintro e w14 ⟨rfl,hb⟩;refine ⟨_,rfl,?_⟩;have n0_:=Up.KB BK181 hb;have n1_:=Aside0.mk (below_step (Up.Bx HB) hb);clear BK181 HB;have BK181:=n0_;have HB:=n1_;clear n0_ n1_;(try clear hb);(try clear hb2);(try clear hk);(try clear hi);have hcz15_0:=Up.c0 BK181;have hcz15_1:=Up.c1 BK181;have hcz15_2:=Up.c2 BK181;have hfz15_0:=blk_frozen BK181.out 0;have hfz15_1:=blk_frozen BK181.out 1;have hfz15_2:=blk_frozen BK181.out 2) | ((with_reducible refine gate_callee (f:=13) rfl ?_);refine Up.gl (some 12) Tryd.func13 #[.agg #[.string a0_0,.int .i64 a0_1,.int .i64 a0_2]] ?_;(with_reducible refine (laws_toIns.calls a0_0 a0_1 a0_2 t183 t184 t185 _ A7.out).mono ?_);rintro e w16 ⟨rfl,hb⟩;refine ⟨_,rfl,?_⟩;have n0_:=Up.KB BK181 hb;have n1_:=Aside0.mk (below_step (Up.Bx HB) hb);clear BK181 HB;have BK181:=n0_;have HB:=n1_;clear n0_ n1_;(try clear hb);(try clear hb2);(try clear hk);(try clear hi)) | ((with_reducible refine gate_callee (f:=12) rfl ?_);refine Up.gl (some 13) Tryd.func12 #[.agg #[.string t183,.int .i64 t184,.int .i64 t185]] ?_;(with_reducible refine (spec_InsOk.calls k t183 t184 t185 t186 _ A8.out).mono ?_);rintro e w17 ⟨rfl,hb⟩;refine ⟨_,rfl,?_⟩;have n0_:=Up.KB BK181 hb;have n1_:=Aside0.mk (below_step (Up.Bx HB) hb);clear BK181 HB;have BK181:=n0_;have HB:=n1_;clear n0_ n1_;(try clear hb);(try clear hb2);(try clear hk);(try clear hi);have hcz18_0:=Up.c0 BK181;have hcz18_1:=Up.c1 BK181;have hcz18_2:=Up.c2 BK181;have hfz18_0:=blk_frozen BK181.out 0;have hfz18_1:=blk_frozen BK181.out 1;have hfz18_2:=blk_frozen BK181.out 2) | ((with_reducible refine gate_callee (f:=13) rfl ?_);refine Up.gl (some 15) Tryd.func13 #[.agg #[.string a0_0,.int .i64 a0_1,.int .i64 a0_2]] ?_;(with_reducible refine (laws_toIns.calls a0_0 a0_1 a0_2 t187 t188 t189 _ A9.out).mono ?_);rintro e w19 ⟨rfl,hb⟩;refine ⟨_,rfl,?_⟩;have n0_:=Up.KB BK181 hb;have n1_:=Aside0.mk (below_step (Up.Bx HB) hb);clear BK181 HB;have BK181:=n0_;have HB:=n1_;clear n0_ n1_;(try clear hb);(try clear hb2);(try clear hk);(try clear hi)) | ((with_reducible refine gate_callee (f:=14) rfl ?_);refine Up.gl (some 16) Tryd.func14 #[.agg #[.string t187,.int .i64 t188,.int .i64 t189]] ?_;(with_reducible refine (impl_InsOk.calls (hT_:=?tab1) k t187 t188 t189 t190 _ A10.out).mono ?_);(case tab1 => exact hT_.below (Up.Bx HB));rintro e w20 ⟨rfl,hb⟩;refine ⟨_,rfl,?_⟩;have n0_:=Up.KB BK181 hb;have n1_:=Aside0.mk (below_step (Up.Bx HB) hb);clear BK181 HB;have BK181:=n0_;have HB:=n1_;clear n0_ n1_;(try clear hb);(try clear hb2);(try clear hk);(try clear hi)))
   go_ret
   exact Up.e1 (Up.Bx HB)
  ·rw [if_neg c11] at H
   have c11b0 : (t190 != t186) = false:=by simpa using c11
   (try (have c11b1 : decide (t190 = t186) = true:=by simpa using c11))
   (try (have c11b2 : (t190 == t186) = true:=by simpa using c11))
   clear c11
   obtain rfl:=Option.some.inj H
   go_enter Tryd.func3,Tryd.ntmps3
   go_wp2_with (first | ((with_reducible refine gate_dst (N:=1) rfl ?_);refine Up.bx 1 23 #[.string a0_0,.int .i64 a0_1,.int .i64 a0_2] ?_;intro gb181 hg w21 hbox hb;have n0_:=Up.BB HB hb;have n1_:=Aside0.mk (hbox);have n2_:=Up.gw hg HB;have n3_:=Up.gw hg HB;clear HB;have HB:=n0_;have BK181:=n1_;have GW181:=n2_;have GE181:=n3_;clear n0_ n1_ n2_ n3_ hb hbox hg;have hcz22_0:=Up.c0 BK181;have hcz22_1:=Up.c1 BK181;have hcz22_2:=Up.c2 BK181;have hfz22_0:=blk_frozen BK181.out 0;have hfz22_1:=blk_frozen BK181.out 1;have hfz22_2:=blk_frozen BK181.out 2) | ((with_reducible refine gate_callee (f:=11) rfl ?_);refine Up.gl (some 8) Tryd.func11 #[.agg #[.string a0_0,.int .i64 a0_1,.int .i64 a0_2],.int .i64 1048576] ?_;(with_reducible refine (laws_szIns.calls a0_0 a0_1 a0_2 1048576 t182 _ A2.out).mono ?_);rintro e w23 ⟨rfl,hb⟩;refine ⟨_,rfl,?_⟩;have n0_:=Up.KB BK181 hb;have n1_:=Aside0.mk (below_step (Up.Bx HB) hb);clear BK181 HB;have BK181:=n0_;have HB:=n1_;clear n0_ n1_;(try clear hb);(try clear hb2);(try clear hk);(try clear hi);have hcz24_0:=Up.c0 BK181;have hcz24_1:=Up.c1 BK181;have hcz24_2:=Up.c2 BK181;have hfz24_0:=blk_frozen BK181.out 0;have hfz24_1:=blk_frozen BK181.out 1;have hfz24_2:=blk_frozen BK181.out 2) | ((with_reducible refine gate_callee (f:=13) rfl ?_);refine Up.gl (some 12) Tryd.func13 #[.agg #[.string a0_0,.int .i64 a0_1,.int .i64 a0_2]] ?_;(with_reducible refine (laws_toIns.calls a0_0 a0_1 a0_2 t183 t184 t185 _ A7.out).mono ?_);rintro e w25 ⟨rfl,hb⟩;refine ⟨_,rfl,?_⟩;have n0_:=Up.KB BK181 hb;have n1_:=Aside0.mk (below_step (Up.Bx HB) hb);clear BK181 HB;have BK181:=n0_;have HB:=n1_;clear n0_ n1_;(try clear hb);(try clear hb2);(try clear hk);(try clear hi)) | ((with_reducible refine gate_callee (f:=12) rfl ?_);refine Up.gl (some 13) Tryd.func12 #[.agg #[.string t183,.int .i64 t184,.int .i64 t185]] ?_;(with_reducible refine (spec_InsOk.calls k t183 t184 t185 t186 _ A8.out).mono ?_);rintro e w26 ⟨rfl,hb⟩;refine ⟨_,rfl,?_⟩;have n0_:=Up.KB BK181 hb;have n1_:=Aside0.mk (below_step (Up.Bx HB) hb);clear BK181 HB;have BK181:=n0_;have HB:=n1_;clear n0_ n1_;(try clear hb);(try clear hb2);(try clear hk);(try clear hi);have hcz27_0:=Up.c0 BK181;have hcz27_1:=Up.c1 BK181;have hcz27_2:=Up.c2 BK181;have hfz27_0:=blk_frozen BK181.out 0;have hfz27_1:=blk_frozen BK181.out 1;have hfz27_2:=blk_frozen BK181.out 2) | ((with_reducible refine gate_callee (f:=13) rfl ?_);refine Up.gl (some 15) Tryd.func13 #[.agg #[.string a0_0,.int .i64 a0_1,.int .i64 a0_2]] ?_;(with_reducible refine (laws_toIns.calls a0_0 a0_1 a0_2 t187 t188 t189 _ A9.out).mono ?_);rintro e w28 ⟨rfl,hb⟩;refine ⟨_,rfl,?_⟩;have n0_:=Up.KB BK181 hb;have n1_:=Aside0.mk (below_step (Up.Bx HB) hb);clear BK181 HB;have BK181:=n0_;have HB:=n1_;clear n0_ n1_;(try clear hb);(try clear hb2);(try clear hk);(try clear hi)) | ((with_reducible refine gate_callee (f:=14) rfl ?_);refine Up.gl (some 16) Tryd.func14 #[.agg #[.string t187,.int .i64 t188,.int .i64 t189]] ?_;(with_reducible refine (impl_InsOk.calls (hT_:=?tab1) k t187 t188 t189 t190 _ A10.out).mono ?_);(case tab1 => exact hT_.below (Up.Bx HB));rintro e w29 ⟨rfl,hb⟩;refine ⟨_,rfl,?_⟩;have n0_:=Up.KB BK181 hb;have n1_:=Aside0.mk (below_step (Up.Bx HB) hb);clear BK181 HB;have BK181:=n0_;have HB:=n1_;clear n0_ n1_;(try clear hb);(try clear hb2);(try clear hk);(try clear hi)))
   go_ret
   exact Up.e1 (Up.Bx HB)

end Go.Proofs.YtfkhjnmgaadomaaDoor.OFnExactInsOk
