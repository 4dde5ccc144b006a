-- Laid by a program of this session (wip/myprint.py): the kit's print of the functions, contracts of our own among them.
import Derived.Test.YtdgmlakgnbmbbaaOFnExactVaultsOkx0
import Derived.Test.YtdgmlakgnbmbbaaOFnExactVaultsOkx3
import Derived.Test.YtdgmlakgnbmbbaaOFnExactVaultsOkx4
import Derived.Test.YtdgmlakgnbmbbaaOFnExactVaultsOkx5
namespace Go.Proofs.Ytdgmlakgnbmbbaa.OFnExactVaultsOk
open Go.RowKit Go.Proofs.YtdgmlakgnbmbbaaW.PrintWords Go.Proofs.YtdgmlakgnbmbbaaW.PrintLast Go.Proofs.YtdgmlakgnbmbbaaW.PrintMore
attribute [local go_sem] max2_int min2_int max_two min_two max_three min_three max_four min_four   -- for this text's walks alone
set_option linter.unusedVariables false
set_option linter.unusedSimpArgs false

/-! ### impl_keepable: function 66 -/
def impl_keepable.f (k : Nat) (l0 : List (List (S113))) (a1_0 : ByteArray) (a1_1 : Int) (l1_2 : List (S27)) (l1_3 : List Int) : Option (Bool):=(impl_kindIn.f l0 a1_0).bind fun t191 => (if t191 = true then ((impl_recordOf.f l0 a1_0).bind fun bt192 => (if (Go.bits .and .i64 bt192.1 8) = 0 then (some false) else ((impl_valueFits.f k l0 a1_0 a1_1 l1_2 l1_3).bind fun t196 => (some t196)))) else (some false))
theorem impl_keepable.mono : ∀ a0 a1 a2 a3 a4 k,LeO (impl_keepable.f k a0 a1 a2 a3 a4) (impl_keepable.f (k + 1) a0 a1 a2 a3 a4):=by
 intro a0 a1 a2 a3 a4 k
 unfold impl_keepable.f
 repeat' first
   | (with_reducible exact impl_valueFits.mono _ _ _ _ _ _)
   | (with_reducible exact LeO.refl _)
   | (with_reducible exact LeO.none _)
   | (with_reducible refine LeO.ite ?_ ?_)
   | (with_reducible refine LeO.bind ?_ (fun _ => ?_))
   | exact impl_valueFits.mono _ _ _ _ _ _
   | exact LeO.none _
   | refine LeO.ite ?_ ?_
   | refine LeO.bind ?_ (fun _ => ?_)
set_option maxHeartbeats 8000000 in
set_option maxRecDepth 100000 in
theorem impl_keepable.calls (k : Nat) (A0 : Option Addr) (c0 : Nat) (l0 : List (List (S113))) (a1_0 : ByteArray) (a1_1 : Int) (A1_2 : Option Addr) (c1_2 : Nat) (l1_2 : List (S27)) (A1_3 : Option Addr) (c1_3 : Nat) (l1_3 : List Int) (r : Bool) (w : World) (hr0 : Kd.C (Kd.slice 113 k113) w A0 l0.length l0) (hc0 : l0.length ≤ c0) (hr1_2 : Kd.C k27 w A1_2 l1_2.length l1_2) (hc1_2 : l1_2.length ≤ c1_2) (hr1_3 : Kd.C (Kd.int .i64) w A1_3 l1_3.length l1_3) (hc1_3 : l1_3.length ≤ c1_3) (h : impl_keepable.f k l0 a1_0 a1_1 l1_2 l1_3 = some r) :
  Calls Try.prog 66 #[.slice A0 l0.length c0,.agg #[.string a1_0,.int .i64 a1_1,.slice A1_2 l1_2.length c1_2,.slice A1_3 l1_3.length c1_3]] w fun e w' => e = .returned (.bool r) ∧ Below w.heap.size w w':=by
 have hu27:=Try.underlying27
 have HR0:=Aside0.mk hr0
 have HC0:=Aside0.mk hc0
 clear hr0 hc0
 have HR1_2:=Aside0.mk hr1_2
 have HC1_2:=Aside0.mk hc1_2
 clear hr1_2 hc1_2
 have HR1_3:=Aside0.mk hr1_3
 have HC1_3:=Aside0.mk hc1_3
 clear hr1_3 hc1_3
 have HB:=Aside0.mk (Below.refl w.heap.size w)
 have H : ((impl_kindIn.f l0 a1_0).bind fun t191 => (if t191 = true then ((impl_recordOf.f l0 a1_0).bind fun bt192 => (if (Go.bits .and .i64 bt192.1 8) = 0 then (some false) else ((impl_valueFits.f k l0 a1_0 a1_1 l1_2 l1_3).bind fun t196 => (some t196)))) else (some false))) = some r:=h
 clear h
 replace H:=Option.bind_eq_some_iff.mp H
 obtain ⟨t191,A30,H⟩:=H
 replace H : (if t191 = true then ((impl_recordOf.f l0 a1_0).bind fun bt192 => (if (Go.bits .and .i64 bt192.1 8) = 0 then (some false) else ((impl_valueFits.f k l0 a1_0 a1_1 l1_2 l1_3).bind fun t196 => (some t196)))) else (some false)) = some r:=H
 have A3:=Aside0.mk A30
 clear A30
 by_cases c4 : t191 = true
 ·subst c4
  have H1 : ((impl_recordOf.f l0 a1_0).bind fun bt192 => (if (Go.bits .and .i64 bt192.1 8) = 0 then (some false) else ((impl_valueFits.f k l0 a1_0 a1_1 l1_2 l1_3).bind fun t196 => (some t196)))) = some r:=by rw [if_pos rfl] at H;exact H
  clear H
  have H:=H1
  clear H1
  replace H:=Option.bind_eq_some_iff.mp H
  obtain ⟨⟨t192,t193⟩,A50,H⟩:=H
  replace H : (if (Go.bits .and .i64 t192 8) = 0 then (some false) else ((impl_valueFits.f k l0 a1_0 a1_1 l1_2 l1_3).bind fun t196 => (some t196))) = some r:=H
  have A5:=Aside0.mk A50
  clear A50
  by_cases c6 : (Go.bits .and .i64 t192 8) = 0
  ·rw [if_pos c6] at H
   have c6b0 : ((Go.bits .and .i64 t192 8) == 0) = true:=beq_iff_eq.mpr c6
   have c6b1 : ((Go.bits .and .i64 t192 8) != 0) = false:=bne_eq_false_iff_eq.mpr c6
   clear c6
   obtain rfl:=Option.some.inj H
   go_enter Try.func66,Try.ntmps66
   go_wp2_with (first | ((with_reducible refine gate_dst (N:=3) rfl ?_);refine Up.bx 3 27 #[.string a1_0,.int .i64 a1_1,.slice A1_2 l1_2.length c1_2,.slice A1_3 l1_3.length c1_3] ?_;intro gb190 hg w7 hbox hb;have n0_:=Up.BB HB hb;have n1_:=Aside0.mk (hbox);have n2_:=Up.gw hg HB;have n3_:=Up.gw hg HB;clear HB;have HB:=n0_;have BK190:=n1_;have GW190:=n2_;have GE190:=n3_;clear n0_ n1_ n2_ n3_ hb hbox hg;have hcz8_0:=Up.c0 BK190;have hcz8_1:=Up.c1 BK190;have hcz8_2:=Up.c2 BK190;have hcz8_3:=Up.c3 BK190;have hfz8_0:=blk_frozen BK190.out 0;have hfz8_1:=blk_frozen BK190.out 1;have hfz8_2:=blk_frozen BK190.out 2;have hfz8_3:=blk_frozen BK190.out 3) | ((with_reducible refine gate_callee (f:=48) rfl ?_);refine Up.gl (some 8) Try.func48 #[.slice A0 l0.length c0,.string a1_0] ?_;(with_reducible refine (impl_kindIn.calls _ _ l0 a1_0 true _ ?side1 ?side2 A3.out).mono ?_);(case side1 => exact Up.Cx HR0 HB);(case side2 => exact HC0.out);rintro e w' ⟨rfl,⟨nd,rfl⟩⟩;refine ⟨_,rfl,?_⟩) | (go_at_call 91;(with_reducible refine (impl_recordOf.calls (fun k_ => k_ < w.heap.size) _ _ l0 a1_0 t192 t193 _ ?side1 A5.out).mono ?_);(case side1 => exact Kd.V_mk HC0.out (Kd.F_below (Kd.C_F (Kd.heap_slice 113 k113_heap) HR0.out) (Up.Bx HB)));rintro e w9 ⟨v194,rfl,ho0,hb⟩;have n0_:=Aside0.mk (Kd.V_lower (Kd.V_mono (ok':=fun k_ => k_ ≠ gb190) ho0 (fun k_ hk_ => Or.elim hk_ (fun hs_ => fun e_ => Nat.not_le.2 hs_ (by rw [e_];exact GW190.out)) (fun hn_ => (Kd.freshB (g:=gb190) (o:=.cells #[.string a1_0,.int .i64 a1_1,.slice A1_2 l1_2.length c1_2,.slice A1_3 l1_3.length c1_3] 27 (0,0)) (Up.Kup BK190) k_ hn_)))) (below_size (Up.Bx HB)));have n1_:=Up.KB BK190 hb;have n2_:=Aside0.mk (below_step (Up.Bx HB) hb);clear BK190 HB;have HO195:=n0_;have BK190:=n1_;have HB:=n2_;clear n0_ n1_ n2_;(try clear hb);(try clear hb2);(try clear hk);(try clear hi);(try clear ho0);(have hfl_ : ∀ w',(Instr.field 113 (.agg #[.int .i64 t192,v194]) 0).run Try.prog w' = .ok (.int .i64 t192) w':=fun _ => by (obtain ⟨Av_,cv_,ev_⟩:=Kd.V_slice HO195.out;rw [ev_];kernel_rfl))))
   go_ret
   exact Up.e1 (Up.Bx HB)
  ·rw [if_neg c6] at H
   have c6b0 : ((Go.bits .and .i64 t192 8) == 0) = false:=beq_eq_false_iff_ne.mpr c6
   have c6b1 : ((Go.bits .and .i64 t192 8) != 0) = true:=bne_iff_ne.mpr c6
   replace H:=Option.bind_eq_some_iff.mp H
   obtain ⟨t196,A100,H⟩:=H
   replace H : (some t196) = some r:=H
   have A10:=Aside0.mk A100
   clear A100
   obtain rfl:=Option.some.inj H
   go_enter Try.func66,Try.ntmps66
   go_wp2_with (first | ((with_reducible refine gate_dst (N:=3) rfl ?_);refine Up.bx 3 27 #[.string a1_0,.int .i64 a1_1,.slice A1_2 l1_2.length c1_2,.slice A1_3 l1_3.length c1_3] ?_;intro gb190 hg w11 hbox hb;have n0_:=Up.BB HB hb;have n1_:=Aside0.mk (hbox);have n2_:=Up.gw hg HB;have n3_:=Up.gw hg HB;clear HB;have HB:=n0_;have BK190:=n1_;have GW190:=n2_;have GE190:=n3_;clear n0_ n1_ n2_ n3_ hb hbox hg;have hcz12_0:=Up.c0 BK190;have hcz12_1:=Up.c1 BK190;have hcz12_2:=Up.c2 BK190;have hcz12_3:=Up.c3 BK190;have hfz12_0:=blk_frozen BK190.out 0;have hfz12_1:=blk_frozen BK190.out 1;have hfz12_2:=blk_frozen BK190.out 2;have hfz12_3:=blk_frozen BK190.out 3) | ((with_reducible refine gate_callee (f:=48) rfl ?_);refine Up.gl (some 8) Try.func48 #[.slice A0 l0.length c0,.string a1_0] ?_;(with_reducible refine (impl_kindIn.calls _ _ l0 a1_0 true _ ?side1 ?side2 A3.out).mono ?_);(case side1 => exact Up.Cx HR0 HB);(case side2 => exact HC0.out);rintro e w' ⟨rfl,⟨nd,rfl⟩⟩;refine ⟨_,rfl,?_⟩) | (go_at_call 91;(with_reducible refine (impl_recordOf.calls (fun k_ => k_ < w.heap.size) _ _ l0 a1_0 t192 t193 _ ?side1 A5.out).mono ?_);(case side1 => exact Kd.V_mk HC0.out (Kd.F_below (Kd.C_F (Kd.heap_slice 113 k113_heap) HR0.out) (Up.Bx HB)));rintro e w13 ⟨v194,rfl,ho0,hb⟩;have n0_:=Aside0.mk (Kd.V_lower (Kd.V_mono (ok':=fun k_ => k_ ≠ gb190) ho0 (fun k_ hk_ => Or.elim hk_ (fun hs_ => fun e_ => Nat.not_le.2 hs_ (by rw [e_];exact GW190.out)) (fun hn_ => (Kd.freshB (g:=gb190) (o:=.cells #[.string a1_0,.int .i64 a1_1,.slice A1_2 l1_2.length c1_2,.slice A1_3 l1_3.length c1_3] 27 (0,0)) (Up.Kup BK190) k_ hn_)))) (below_size (Up.Bx HB)));have n1_:=Up.KB BK190 hb;have n2_:=Aside0.mk (below_step (Up.Bx HB) hb);clear BK190 HB;have HO195:=n0_;have BK190:=n1_;have HB:=n2_;clear n0_ n1_ n2_;(try clear hb);(try clear hb2);(try clear hk);(try clear hi);(try clear ho0);(have hfl_ : ∀ w',(Instr.field 113 (.agg #[.int .i64 t192,v194]) 0).run Try.prog w' = .ok (.int .i64 t192) w':=fun _ => by (obtain ⟨Av_,cv_,ev_⟩:=Kd.V_slice HO195.out;rw [ev_];kernel_rfl));have hcz14_0:=Up.c0 BK190;have hcz14_1:=Up.c1 BK190;have hcz14_2:=Up.c2 BK190;have hcz14_3:=Up.c3 BK190;have hfz14_0:=blk_frozen BK190.out 0;have hfz14_1:=blk_frozen BK190.out 1;have hfz14_2:=blk_frozen BK190.out 2;have hfz14_3:=blk_frozen BK190.out 3) | (go_at_call 46;(with_reducible refine (impl_valueFits.calls k _ _ l0 a1_0 a1_1 _ _ l1_2 _ _ l1_3 t196 _ ?side1 ?side2 ?side3 ?side4 ?side5 ?side6 A10.out).mono ?_);(case side1 => exact Up.Cx HR0 HB);(case side2 => exact HC0.out);(case side3 => exact Up.Cx HR1_2 HB);(case side4 => exact HC1_2.out);(case side5 => exact Up.Cx HR1_3 HB);(case side6 => exact HC1_3.out);rintro e w15 ⟨rfl,hb⟩;have n0_:=Up.VB HO195 hb;have n1_:=Up.KB BK190 hb;have n2_:=Aside0.mk (below_step (Up.Bx HB) hb);clear HO195 BK190 HB;have HO195:=n0_;have BK190:=n1_;have HB:=n2_;clear n0_ n1_ n2_;(try clear hb);(try clear hb2);(try clear hk);(try clear hi)))
   go_ret
   exact Up.e1 (Up.Bx HB)
 ·replace c4:=Bool.eq_false_iff.mpr c4
  subst c4
  have H1 : (some false) = some r:=by rw [if_neg (show ¬ (false = true) by decide)] at H;exact H
  clear H
  have H:=H1
  clear H1
  obtain rfl:=Option.some.inj H
  go_enter Try.func66,Try.ntmps66
  go_wp2_with (first | ((with_reducible refine gate_dst (N:=3) rfl ?_);refine Up.bx 3 27 #[.string a1_0,.int .i64 a1_1,.slice A1_2 l1_2.length c1_2,.slice A1_3 l1_3.length c1_3] ?_;intro gb190 hg w16 hbox hb;have n0_:=Up.BB HB hb;have n1_:=Aside0.mk (hbox);have n2_:=Up.gw hg HB;have n3_:=Up.gw hg HB;clear HB;have HB:=n0_;have BK190:=n1_;have GW190:=n2_;have GE190:=n3_;clear n0_ n1_ n2_ n3_ hb hbox hg;have hcz17_0:=Up.c0 BK190;have hcz17_1:=Up.c1 BK190;have hcz17_2:=Up.c2 BK190;have hcz17_3:=Up.c3 BK190;have hfz17_0:=blk_frozen BK190.out 0;have hfz17_1:=blk_frozen BK190.out 1;have hfz17_2:=blk_frozen BK190.out 2;have hfz17_3:=blk_frozen BK190.out 3) | ((with_reducible refine gate_callee (f:=48) rfl ?_);refine Up.gl (some 8) Try.func48 #[.slice A0 l0.length c0,.string a1_0] ?_;(with_reducible refine (impl_kindIn.calls _ _ l0 a1_0 false _ ?side1 ?side2 A3.out).mono ?_);(case side1 => exact Up.Cx HR0 HB);(case side2 => exact HC0.out);rintro e w' ⟨rfl,⟨nd,rfl⟩⟩;refine ⟨_,rfl,?_⟩))
  go_ret
  exact Up.e1 (Up.Bx HB)

/-! ### impl_vaultBefore: function 67 -/
def impl_vaultBefore.f (a0_0 : Int) (a0_1 : ByteArray) (a0_2 : Int) (l0_3 : List (S27)) (l0_4 : List Int) (a1_0 : Int) (a1_1 : ByteArray) (a1_2 : Int) (l1_3 : List (S27)) (l1_4 : List Int) : Option (Bool):=if a0_0 < a1_0 then (some true) else (if a0_0 = a1_0 then (some (Op.bytesLess a0_1.toList a1_1.toList)) else (some false))
set_option maxHeartbeats 8000000 in
set_option maxRecDepth 100000 in
theorem impl_vaultBefore.calls (a0_0 : Int) (a0_1 : ByteArray) (a0_2 : Int) (A0_3 : Option Addr) (c0_3 : Nat) (l0_3 : List (S27)) (A0_4 : Option Addr) (c0_4 : Nat) (l0_4 : List Int) (a1_0 : Int) (a1_1 : ByteArray) (a1_2 : Int) (A1_3 : Option Addr) (c1_3 : Nat) (l1_3 : List (S27)) (A1_4 : Option Addr) (c1_4 : Nat) (l1_4 : List Int) (r : Bool) (w : World) (hr0_3 : Kd.C k27 w A0_3 l0_3.length l0_3) (hc0_3 : l0_3.length ≤ c0_3) (hr0_4 : Kd.C (Kd.int .i64) w A0_4 l0_4.length l0_4) (hc0_4 : l0_4.length ≤ c0_4) (hr1_3 : Kd.C k27 w A1_3 l1_3.length l1_3) (hc1_3 : l1_3.length ≤ c1_3) (hr1_4 : Kd.C (Kd.int .i64) w A1_4 l1_4.length l1_4) (hc1_4 : l1_4.length ≤ c1_4) (h : impl_vaultBefore.f a0_0 a0_1 a0_2 l0_3 l0_4 a1_0 a1_1 a1_2 l1_3 l1_4 = some r) :
  Calls Try.prog 67 #[.agg #[.int .i64 a0_0,.string a0_1,.int .i64 a0_2,.slice A0_3 l0_3.length c0_3,.slice A0_4 l0_4.length c0_4],.agg #[.int .i64 a1_0,.string a1_1,.int .i64 a1_2,.slice A1_3 l1_3.length c1_3,.slice A1_4 l1_4.length c1_4]] w fun e w' => e = .returned (.bool r) ∧ Below w.heap.size w w':=by
 have hu55:=Try.underlying55
 have HR0_3:=Aside0.mk hr0_3
 have HC0_3:=Aside0.mk hc0_3
 clear hr0_3 hc0_3
 have HR0_4:=Aside0.mk hr0_4
 have HC0_4:=Aside0.mk hc0_4
 clear hr0_4 hc0_4
 have HR1_3:=Aside0.mk hr1_3
 have HC1_3:=Aside0.mk hc1_3
 clear hr1_3 hc1_3
 have HR1_4:=Aside0.mk hr1_4
 have HC1_4:=Aside0.mk hc1_4
 clear hr1_4 hc1_4
 have HB:=Aside0.mk (Below.refl w.heap.size w)
 have H : (if a0_0 < a1_0 then (some true) else (if a0_0 = a1_0 then (some (Op.bytesLess a0_1.toList a1_1.toList)) else (some false))) = some r:=h
 clear h
 by_cases c3 : a0_0 < a1_0
 ·rw [if_pos c3] at H
  have c3b0 : decide (a0_0 < a1_0) = true:=decide_eq_true c3
  clear c3
  obtain rfl:=Option.some.inj H
  go_enter Try.func67,Try.ntmps67
  go_wp2_with (first | ((with_reducible refine gate_dst (N:=2) rfl ?_);refine Up.bx 2 55 #[.int .i64 a0_0,.string a0_1,.int .i64 a0_2,.slice A0_3 l0_3.length c0_3,.slice A0_4 l0_4.length c0_4] ?_;intro gb197 hg w4 hbox hb;have n0_:=Up.BB HB hb;have n1_:=Aside0.mk (hbox);have n2_:=Up.gw hg HB;have n3_:=Up.gw hg HB;clear HB;have HB:=n0_;have BK197:=n1_;have GW197:=n2_;have GE197:=n3_;clear n0_ n1_ n2_ n3_ hb hbox hg) | ((with_reducible refine gate_dst (N:=3) rfl ?_);refine Up.bx 3 55 #[.int .i64 a1_0,.string a1_1,.int .i64 a1_2,.slice A1_3 l1_3.length c1_3,.slice A1_4 l1_4.length c1_4] ?_;intro gb198 hg w5 hbox hb;have n0_:=Up.KB BK197 hb;have n1_:=Aside0.mk (below_step (Up.Bx HB) hb);have n2_:=Aside0.mk (hbox);have n3_:=Up.gw hg HB;have n4_:=Up.gw hg HB;have n5_:=Up.nl hg BK197;have n6_:=Up.ng hg BK197;clear BK197 HB;have BK197:=n0_;have HB:=n1_;have BK198:=n2_;have GW198:=n3_;have GE198:=n4_;have NB197_198:=n5_;have NB198_197:=n6_;clear n0_ n1_ n2_ n3_ n4_ n5_ n6_ hb hbox hg;have hnb6:=NB197_198.out;have hnc6:=NB198_197.out;have hcz7_0:=Up.c0 BK197;have hcz7_1:=Up.c1 BK197;have hcz7_2:=Up.c2 BK197;have hcz7_3:=Up.c3 BK197;have hcz7_4:=Up.c4 BK197;have hfz7_0:=blk_frozen BK197.out 0;have hfz7_1:=blk_frozen BK197.out 1;have hfz7_2:=blk_frozen BK197.out 2;have hfz7_3:=blk_frozen BK197.out 3;have hfz7_4:=blk_frozen BK197.out 4;have hcz8_0:=Up.c0 BK198;have hcz8_1:=Up.c1 BK198;have hcz8_2:=Up.c2 BK198;have hcz8_3:=Up.c3 BK198;have hcz8_4:=Up.c4 BK198;have hfz8_0:=blk_frozen BK198.out 0;have hfz8_1:=blk_frozen BK198.out 1;have hfz8_2:=blk_frozen BK198.out 2;have hfz8_3:=blk_frozen BK198.out 3;have hfz8_4:=blk_frozen BK198.out 4))
  go_ret
  exact Up.e1 (Up.Bx HB)
 ·rw [if_neg c3] at H
  have c3b0 : decide (a0_0 < a1_0) = false:=decide_eq_false c3
  clear c3
  by_cases c9 : a0_0 = a1_0
  ·rw [if_pos c9] at H
   have c9b0 : (a0_0 == a1_0) = true:=beq_iff_eq.mpr c9
   have c9b1 : (a0_0 != a1_0) = false:=bne_eq_false_iff_eq.mpr c9
   clear c9
   obtain rfl:=Option.some.inj H
   go_enter Try.func67,Try.ntmps67
   go_wp2_with (first | ((with_reducible refine gate_dst (N:=2) rfl ?_);refine Up.bx 2 55 #[.int .i64 a0_0,.string a0_1,.int .i64 a0_2,.slice A0_3 l0_3.length c0_3,.slice A0_4 l0_4.length c0_4] ?_;intro gb197 hg w10 hbox hb;have n0_:=Up.BB HB hb;have n1_:=Aside0.mk (hbox);have n2_:=Up.gw hg HB;have n3_:=Up.gw hg HB;clear HB;have HB:=n0_;have BK197:=n1_;have GW197:=n2_;have GE197:=n3_;clear n0_ n1_ n2_ n3_ hb hbox hg) | ((with_reducible refine gate_dst (N:=3) rfl ?_);refine Up.bx 3 55 #[.int .i64 a1_0,.string a1_1,.int .i64 a1_2,.slice A1_3 l1_3.length c1_3,.slice A1_4 l1_4.length c1_4] ?_;intro gb198 hg w11 hbox hb;have n0_:=Up.KB BK197 hb;have n1_:=Aside0.mk (below_step (Up.Bx HB) hb);have n2_:=Aside0.mk (hbox);have n3_:=Up.gw hg HB;have n4_:=Up.gw hg HB;have n5_:=Up.nl hg BK197;have n6_:=Up.ng hg BK197;clear BK197 HB;have BK197:=n0_;have HB:=n1_;have BK198:=n2_;have GW198:=n3_;have GE198:=n4_;have NB197_198:=n5_;have NB198_197:=n6_;clear n0_ n1_ n2_ n3_ n4_ n5_ n6_ hb hbox hg;have hnb12:=NB197_198.out;have hnc12:=NB198_197.out;have hcz13_0:=Up.c0 BK197;have hcz13_1:=Up.c1 BK197;have hcz13_2:=Up.c2 BK197;have hcz13_3:=Up.c3 BK197;have hcz13_4:=Up.c4 BK197;have hfz13_0:=blk_frozen BK197.out 0;have hfz13_1:=blk_frozen BK197.out 1;have hfz13_2:=blk_frozen BK197.out 2;have hfz13_3:=blk_frozen BK197.out 3;have hfz13_4:=blk_frozen BK197.out 4;have hcz14_0:=Up.c0 BK198;have hcz14_1:=Up.c1 BK198;have hcz14_2:=Up.c2 BK198;have hcz14_3:=Up.c3 BK198;have hcz14_4:=Up.c4 BK198;have hfz14_0:=blk_frozen BK198.out 0;have hfz14_1:=blk_frozen BK198.out 1;have hfz14_2:=blk_frozen BK198.out 2;have hfz14_3:=blk_frozen BK198.out 3;have hfz14_4:=blk_frozen BK198.out 4))
   go_ret
   exact Up.e1 (Up.Bx HB)
  ·rw [if_neg c9] at H
   have c9b0 : (a0_0 == a1_0) = false:=beq_eq_false_iff_ne.mpr c9
   have c9b1 : (a0_0 != a1_0) = true:=bne_iff_ne.mpr c9
   obtain rfl:=Option.some.inj H
   go_enter Try.func67,Try.ntmps67
   go_wp2_with (first | ((with_reducible refine gate_dst (N:=2) rfl ?_);refine Up.bx 2 55 #[.int .i64 a0_0,.string a0_1,.int .i64 a0_2,.slice A0_3 l0_3.length c0_3,.slice A0_4 l0_4.length c0_4] ?_;intro gb197 hg w15 hbox hb;have n0_:=Up.BB HB hb;have n1_:=Aside0.mk (hbox);have n2_:=Up.gw hg HB;have n3_:=Up.gw hg HB;clear HB;have HB:=n0_;have BK197:=n1_;have GW197:=n2_;have GE197:=n3_;clear n0_ n1_ n2_ n3_ hb hbox hg) | ((with_reducible refine gate_dst (N:=3) rfl ?_);refine Up.bx 3 55 #[.int .i64 a1_0,.string a1_1,.int .i64 a1_2,.slice A1_3 l1_3.length c1_3,.slice A1_4 l1_4.length c1_4] ?_;intro gb198 hg w16 hbox hb;have n0_:=Up.KB BK197 hb;have n1_:=Aside0.mk (below_step (Up.Bx HB) hb);have n2_:=Aside0.mk (hbox);have n3_:=Up.gw hg HB;have n4_:=Up.gw hg HB;have n5_:=Up.nl hg BK197;have n6_:=Up.ng hg BK197;clear BK197 HB;have BK197:=n0_;have HB:=n1_;have BK198:=n2_;have GW198:=n3_;have GE198:=n4_;have NB197_198:=n5_;have NB198_197:=n6_;clear n0_ n1_ n2_ n3_ n4_ n5_ n6_ hb hbox hg;have hnb17:=NB197_198.out;have hnc17:=NB198_197.out;have hcz18_0:=Up.c0 BK197;have hcz18_1:=Up.c1 BK197;have hcz18_2:=Up.c2 BK197;have hcz18_3:=Up.c3 BK197;have hcz18_4:=Up.c4 BK197;have hfz18_0:=blk_frozen BK197.out 0;have hfz18_1:=blk_frozen BK197.out 1;have hfz18_2:=blk_frozen BK197.out 2;have hfz18_3:=blk_frozen BK197.out 3;have hfz18_4:=blk_frozen BK197.out 4;have hcz19_0:=Up.c0 BK198;have hcz19_1:=Up.c1 BK198;have hcz19_2:=Up.c2 BK198;have hcz19_3:=Up.c3 BK198;have hcz19_4:=Up.c4 BK198;have hfz19_0:=blk_frozen BK198.out 0;have hfz19_1:=blk_frozen BK198.out 1;have hfz19_2:=blk_frozen BK198.out 2;have hfz19_3:=blk_frozen BK198.out 3;have hfz19_4:=blk_frozen BK198.out 4))
   go_ret
   exact Up.e1 (Up.Bx HB)

/-! ### impl_VaultsOk: function 26 -/
mutual
def impl_VaultsOk.j0 : Nat → List (List (S113)) → List (S55) → Bool → Option (Bool)
 | 0,_,_,_ => none
 | k + 1,x0,x1,x14 => if x14 = true then (some false) else (impl_VaultsOk.l0 k x0 x1 x1 (x1.length : Int) 0)
def impl_VaultsOk.l0 : Nat → List (List (S113)) → List (S55) → List (S55) → Int → Int → Option (Bool)
 | 0,_,_,_,_,_ => none
 | k + 1,x0,x1,x15,x16,x17 => if x17 < x16 then (if 0 ≤ x17 then (if x17 < (x15.length : Int) then (if ((rd_T55 x15 x17).f0) < 0 then (impl_VaultsOk.j2 k x0 x1 x17 x15 x16 x17 true ((rd_T55 x15 x17).f0) ((rd_T55 x15 x17).f1.f0) ((rd_T55 x15 x17).f1.f1) ((rd_T55 x15 x17).f1.f2) ((rd_T55 x15 x17).f1.f3)) else (if ((rd_T55 x15 x17).f0) ≥ 4 then (impl_VaultsOk.j2 k x0 x1 x17 x15 x16 x17 true ((rd_T55 x15 x17).f0) ((rd_T55 x15 x17).f1.f0) ((rd_T55 x15 x17).f1.f1) ((rd_T55 x15 x17).f1.f2) ((rd_T55 x15 x17).f1.f3)) else ((impl_keepable.f k x0 ((rd_T55 x15 x17).f1.f0) ((rd_T55 x15 x17).f1.f1) ((rd_T55 x15 x17).f1.f2) ((rd_T55 x15 x17).f1.f3)).bind fun t202 => (impl_VaultsOk.j2 k x0 x1 x17 x15 x16 x17 (!t202) ((rd_T55 x15 x17).f0) ((rd_T55 x15 x17).f1.f0) ((rd_T55 x15 x17).f1.f1) ((rd_T55 x15 x17).f1.f2) ((rd_T55 x15 x17).f1.f3))))) else (none)) else (none)) else (some true)
def impl_VaultsOk.j2 : Nat → List (List (S113)) → List (S55) → Int → List (S55) → Int → Int → Bool → Int → ByteArray → Int → List (S27) → List Int → Option (Bool)
 | 0,_,_,_,_,_,_,_,_,_,_,_,_ => none
 | k + 1,x0,x1,x5,x15,x16,x17,x36,x202000,x202001,x202002,x202003,x202004 => if x36 = true then (some false) else (if x5 > 0 then (if 0 ≤ (wrap64 (x5 - 1)) then (if (wrap64 (x5 - 1)) < (x1.length : Int) then ((impl_vaultBefore.f ((rd_T55 x1 (wrap64 (x5 - 1))).f0) ((rd_T55 x1 (wrap64 (x5 - 1))).f1.f0) ((rd_T55 x1 (wrap64 (x5 - 1))).f1.f1) ((rd_T55 x1 (wrap64 (x5 - 1))).f1.f2) ((rd_T55 x1 (wrap64 (x5 - 1))).f1.f3) x202000 x202001 x202002 x202003 x202004).bind fun t204 => (if t204 = true then (impl_VaultsOk.l0 k x0 x1 x15 x16 (wrap64 (x17 + 1))) else (some false))) else (none)) else (none)) else (impl_VaultsOk.l0 k x0 x1 x15 x16 (wrap64 (x17 + 1))))
end
def impl_VaultsOk.f (k : Nat) (l0 : List (List (S113))) (l1 : List (S55)) : Option (Bool):=(impl_KindsOk.f k l0).bind fun t199 => (if t199 = true then (impl_VaultsOk.j0 k l0 l1 (decide ((l1.length : Int) > 36))) else (impl_VaultsOk.j0 k l0 l1 true))
theorem impl_VaultsOk.mono_l : ∀ k,(∀ y0 y1 y2,LeO (impl_VaultsOk.j0 k y0 y1 y2) (impl_VaultsOk.j0 (k + 1) y0 y1 y2)) ∧ (∀ y0 y1 y2 y3 y4,LeO (impl_VaultsOk.l0 k y0 y1 y2 y3 y4) (impl_VaultsOk.l0 (k + 1) y0 y1 y2 y3 y4)) ∧ (∀ y0 y1 y2 y3 y4 y5 y6 y7 y8 y9 y10 y11,LeO (impl_VaultsOk.j2 k y0 y1 y2 y3 y4 y5 y6 y7 y8 y9 y10 y11) (impl_VaultsOk.j2 (k + 1) y0 y1 y2 y3 y4 y5 y6 y7 y8 y9 y10 y11))
 | 0 => ⟨fun _ _ _ r h => by simp [impl_VaultsOk.j0] at h,fun _ _ _ _ _ r h => by simp [impl_VaultsOk.l0] at h,fun _ _ _ _ _ _ _ _ _ _ _ _ r h => by simp [impl_VaultsOk.j2] at h⟩
 | k + 1 => by
  obtain ⟨ih0,ih1,ih2⟩:=impl_VaultsOk.mono_l k
  refine ⟨?_,?_,?_⟩
  ·intro y0 y1 y2
   unfold impl_VaultsOk.j0
   repeat' first
   | (with_reducible exact ih0 _ _ _)
   | (with_reducible exact ih1 _ _ _ _ _)
   | (with_reducible exact ih2 _ _ _ _ _ _ _ _ _ _ _ _)
   | (with_reducible exact impl_KindsOk.mono _ _)
   | (with_reducible exact impl_keepable.mono _ _ _ _ _ _)
   | (with_reducible exact LeO.refl _)
   | (with_reducible exact LeO.none _)
   | (with_reducible refine LeO.ite ?_ ?_)
   | (with_reducible refine LeO.bind ?_ (fun _ => ?_))
   | exact ih0 _ _ _
   | exact ih1 _ _ _ _ _
   | exact ih2 _ _ _ _ _ _ _ _ _ _ _ _
   | exact impl_KindsOk.mono _ _
   | exact impl_keepable.mono _ _ _ _ _ _
   | exact LeO.none _
   | refine LeO.ite ?_ ?_
   | refine LeO.bind ?_ (fun _ => ?_)
  ·intro y0 y1 y2 y3 y4
   unfold impl_VaultsOk.l0
   repeat' first
   | (with_reducible exact ih0 _ _ _)
   | (with_reducible exact ih1 _ _ _ _ _)
   | (with_reducible exact ih2 _ _ _ _ _ _ _ _ _ _ _ _)
   | (with_reducible exact impl_KindsOk.mono _ _)
   | (with_reducible exact impl_keepable.mono _ _ _ _ _ _)
   | (with_reducible exact LeO.refl _)
   | (with_reducible exact LeO.none _)
   | (with_reducible refine LeO.ite ?_ ?_)
   | (with_reducible refine LeO.bind ?_ (fun _ => ?_))
   | exact ih0 _ _ _
   | exact ih1 _ _ _ _ _
   | exact ih2 _ _ _ _ _ _ _ _ _ _ _ _
   | exact impl_KindsOk.mono _ _
   | exact impl_keepable.mono _ _ _ _ _ _
   | exact LeO.none _
   | refine LeO.ite ?_ ?_
   | refine LeO.bind ?_ (fun _ => ?_)
  ·intro y0 y1 y2 y3 y4 y5 y6 y7 y8 y9 y10 y11
   unfold impl_VaultsOk.j2
   repeat' first
   | (with_reducible exact ih0 _ _ _)
   | (with_reducible exact ih1 _ _ _ _ _)
   | (with_reducible exact ih2 _ _ _ _ _ _ _ _ _ _ _ _)
   | (with_reducible exact impl_KindsOk.mono _ _)
   | (with_reducible exact impl_keepable.mono _ _ _ _ _ _)
   | (with_reducible exact LeO.refl _)
   | (with_reducible exact LeO.none _)
   | (with_reducible refine LeO.ite ?_ ?_)
   | (with_reducible refine LeO.bind ?_ (fun _ => ?_))
   | exact ih0 _ _ _
   | exact ih1 _ _ _ _ _
   | exact ih2 _ _ _ _ _ _ _ _ _ _ _ _
   | exact impl_KindsOk.mono _ _
   | exact impl_keepable.mono _ _ _ _ _ _
   | exact LeO.none _
   | refine LeO.ite ?_ ?_
   | refine LeO.bind ?_ (fun _ => ?_)
theorem impl_VaultsOk.mono : ∀ a0 a1 k,LeO (impl_VaultsOk.f k a0 a1) (impl_VaultsOk.f (k + 1) a0 a1):=by
 intro a0 a1 k
 obtain ⟨ih0,ih1,ih2⟩:=impl_VaultsOk.mono_l k
 unfold impl_VaultsOk.f
 repeat' first
   | (with_reducible exact ih0 _ _ _)
   | (with_reducible exact ih1 _ _ _ _ _)
   | (with_reducible exact ih2 _ _ _ _ _ _ _ _ _ _ _ _)
   | (with_reducible exact impl_KindsOk.mono _ _)
   | (with_reducible exact impl_keepable.mono _ _ _ _ _ _)
   | (with_reducible exact LeO.refl _)
   | (with_reducible exact LeO.none _)
   | (with_reducible refine LeO.ite ?_ ?_)
   | (with_reducible refine LeO.bind ?_ (fun _ => ?_))
   | exact ih0 _ _ _
   | exact ih1 _ _ _ _ _
   | exact ih2 _ _ _ _ _ _ _ _ _ _ _ _
   | exact impl_KindsOk.mono _ _
   | exact impl_keepable.mono _ _ _ _ _ _
   | exact LeO.none _
   | refine LeO.ite ?_ ?_
   | refine LeO.bind ?_ (fun _ => ?_)
def impl_VaultsOk.T8 : Bool × List (List Nat × List Nat):=(true,[([],[]),([0],[0]),([1],[1]),([2],[2]),([2],[2]),([4,2],[2,4]),([3,5,2],[2,3,5]),([6,2],[2,6]),([2],[2]),([7,8,2,2],[2,7,8]),([9,2],[2,9]),([2,10],[2,10])])
def impl_VaultsOk.B8 : List Nat:=[0,1,3,7,7,23,63,127,7,511,1023,2047]
theorem impl_VaultsOk.tab8 : rtab .any (opsOf Try.f26 8) = impl_VaultsOk.T8:=by kernel_rfl
theorem impl_VaultsOk.bits8 : waitsOk impl_VaultsOk.T8.2 impl_VaultsOk.B8 = true:=by kernel_rfl
set_option maxHeartbeats 8000000 in
set_option maxRecDepth 100000 in
theorem impl_VaultsOk.calls (k : Nat) (A0 : Option Addr) (c0 : Nat) (l0 : List (List (S113))) (A1 : Option Addr) (c1 : Nat) (l1 : List (S55)) (r : Bool) (w : World) (hr0 : Kd.C (Kd.slice 113 k113) w A0 l0.length l0) (hc0 : l0.length ≤ c0) (hr1 : Kd.C k55 w A1 l1.length l1) (hc1 : l1.length ≤ c1) (h : impl_VaultsOk.f k l0 l1 = some r) :
  Calls Try.prog 26 #[.slice A0 l0.length c0,.slice A1 l1.length c1] w fun e w' => e = .returned (.bool r) ∧ Below w.heap.size w w':=by
 have hu55:=Try.underlying55
 have hu27:=Try.underlying27
 have HR0:=Aside0.mk hr0
 have HC0:=Aside0.mk hc0
 clear hr0 hc0
 have HR1:=Aside0.mk hr1
 have HC1:=Aside0.mk hc1
 clear hr1 hc1
 have HB:=Aside0.mk (Below.refl w.heap.size w)
 have H : ((impl_KindsOk.f k l0).bind fun t199 => (if t199 = true then (impl_VaultsOk.j0 k l0 l1 (decide ((l1.length : Int) > 36))) else (impl_VaultsOk.j0 k l0 l1 true))) = some r:=h
 clear h
 have HC3:=Aside0.mk H
 clear H
 go_enter Try.func26,Try.ntmps26
 go_upto_region 1 with (fail)
 go_cut [14] (fun v14 wc => ∃ (kq : Nat) (x14_2 : Bool),v14 = .bool x14_2 ∧ Aside0 (impl_VaultsOk.j0 kq l0 l1 x14_2 = some r) ∧ Aside0 (kq ≤ k) ∧ Aside0 (Below w.heap.size w wc))
 case first =>
  have H:=HC3.out
  clear HC3
  replace H:=Option.bind_eq_some_iff.mp H
  obtain ⟨t199,A40,H⟩:=H
  replace H : (if t199 = true then (impl_VaultsOk.j0 k l0 l1 (decide ((l1.length : Int) > 36))) else (impl_VaultsOk.j0 k l0 l1 true)) = some r:=H
  have A4:=Aside0.mk A40
  clear A40
  by_cases c5 : t199 = true
  ·subst c5
   have H1 : (impl_VaultsOk.j0 k l0 l1 (decide ((l1.length : Int) > 36))) = some r:=by rw [if_pos rfl] at H;exact H
   clear H
   have H:=H1
   clear H1
   have H':=Aside0.mk H
   clear H
   go_wp2_with (first | ((with_reducible refine gate_callee (f:=45) rfl ?_);refine Up.gl (some 8) Try.func45 #[.slice A0 l0.length c0] ?_;(with_reducible refine (impl_KindsOk.calls k _ _ l0 true _ ?side1 ?side2 A4.out).mono ?_);(case side1 => exact Up.Cx HR0 HB);(case side2 => exact HC0.out);rintro e w6 ⟨rfl,hb⟩;refine ⟨_,rfl,?_⟩;have n0_:=Up.BB HB hb;clear HB;have HB:=n0_;clear n0_;(try clear hb);(try clear hb2);(try clear hk);(try clear hi)))
   go_meet
   case rel => exact ⟨_,(decide ((l1.length : Int) > 36)),(by first | rfl | (simp;done) | (simp [*];done)),H',⟨by first | omega | exact Nat.le_refl _⟩,⟨Up.Bup HB⟩⟩
  ·replace c5:=Bool.eq_false_iff.mpr c5
   subst c5
   have H1 : (impl_VaultsOk.j0 k l0 l1 true) = some r:=by rw [if_neg (show ¬ (false = true) by decide)] at H;exact H
   clear H
   have H:=H1
   clear H1
   have H':=Aside0.mk H
   clear H
   go_wp2_with (first | ((with_reducible refine gate_callee (f:=45) rfl ?_);refine Up.gl (some 8) Try.func45 #[.slice A0 l0.length c0] ?_;(with_reducible refine (impl_KindsOk.calls k _ _ l0 false _ ?side1 ?side2 A4.out).mono ?_);(case side1 => exact Up.Cx HR0 HB);(case side2 => exact HC0.out);rintro e w7 ⟨rfl,hb⟩;refine ⟨_,rfl,?_⟩;have n0_:=Up.BB HB hb;clear HB;have HB:=n0_;clear n0_;(try clear hb);(try clear hb2);(try clear hk);(try clear hi)))
   go_meet
   case rel => exact ⟨_,(true),(by first | rfl | (simp;done) | (simp [*];done)),H',⟨by first | omega | exact Nat.le_refl _⟩,⟨Up.Bup HB⟩⟩
 case rest =>
  clear HC3
  try clear c1
  try clear c2
  try clear p2
  try clear c4
  try clear c5
  obtain ⟨kq,x14_2,rfl,HA,HJ2,HB⟩:=hcut
  cases kq with
  | zero => exact absurd HA.out (by simp [impl_VaultsOk.j0])
  | succ kj2 =>
   have H:=HA.out
   clear HA
   simp only [impl_VaultsOk.j0] at H
   by_cases c8 : x14_2 = true
   ·subst c8
    have H1 : (some false) = some r:=by rw [if_pos rfl] at H;exact H
    clear H
    have H:=H1
    clear H1
    obtain rfl:=Option.some.inj H
    go_wp2
    go_ret
    exact Up.e1 (Up.Bup HB)
   ·replace c8:=Bool.eq_false_iff.mpr c8
    subst c8
    have H1 : (impl_VaultsOk.l0 kj2 l0 l1 l1 (l1.length : Int) 0) = some r:=by rw [if_neg (show ¬ (false = true) by decide)] at H;exact H
    clear H
    have H:=H1
    clear H1
    have H':=Aside0.mk H
    clear H
    go_wp2
    go_loopg [17] kj2 (fun kq v17 w' => ∃ (x17_2 : Int),v17 = .int .i64 x17_2 ∧ Aside0 (impl_VaultsOk.l0 kq l0 l1 l1 (l1.length : Int) x17_2 = some r) ∧ Aside0 (kq ≤ kj2) ∧ Aside0 (Below w.heap.size w w'))
    case atStart => exact ⟨(0),(by first | rfl | (simp;done) | (simp [*];done)),H',⟨Nat.le_refl _⟩,⟨Up.Bup HB⟩⟩
    case round =>
     clear H'
     try clear c1
     try clear c2
     try clear p2
     try clear c4
     try clear c5
     try clear c8
     try clear p2
     obtain ⟨x17_2,rfl,HA,HK2,HB⟩:=hrel
     cases gk with
     | zero => exact absurd HA.out (by simp [impl_VaultsOk.l0])
     | succ k2 =>
      have H:=HA.out
      clear HA
      simp only [impl_VaultsOk.l0] at H
      by_cases c9 : x17_2 < (l1.length : Int)
      ·rw [if_pos c9] at H
       have c9b0 : decide (x17_2 < (l1.length : Int)) = true:=decide_eq_true c9
       clear c9
       by_cases c10 : 0 ≤ x17_2
       ·rw [if_pos c10] at H
        have c10b0 : decide (0 ≤ x17_2) = true:=decide_eq_true c10
        clear c10
        by_cases c11 : x17_2 < (l1.length : Int)
        ·rw [if_pos c11] at H
         have c11b0 : decide (x17_2 < (l1.length : Int)) = true:=decide_eq_true c11
         clear c11
         have HC12:=Aside0.mk H
         clear H
         have p200 : 0 ≤ (x17_2 : Int):=Up.od
         have q200 : x17_2 < (l1.length : Int):=Up.od
         obtain ⟨ad200,A200_3,c200_3,A200_4,c200_4,e200,hx200_0,hx200_1,hx200_2,hx200_3,hx200_4,hl200_3,hi200_3,hl200_4,hi200_4⟩:=at_T55 HR1.out x17_2 p200 q200
         cases e200
         replace hx200_0:=Up.hc HB hx200_0
         replace hx200_1:=Up.hc HB hx200_1
         replace hx200_2:=Up.hc HB hx200_2
         replace hx200_3:=Up.hc HB hx200_3
         replace hx200_4:=Up.hc HB hx200_4
         have HR200_3:=Aside0.mk hi200_3
         have HC200_3:=Aside0.mk hl200_3
         clear hi200_3 hl200_3
         have HR200_4:=Aside0.mk hi200_4
         have HC200_4:=Aside0.mk hl200_4
         clear hi200_4 hl200_4
         replace p200:=eq_true p200
         replace q200:=eq_true q200
         go_upto_region 6 with (first | ((with_reducible refine gate_dst (N:=6) rfl ?_);(try (refine gate_guard (by rfl) ?_;dsimp only));refine Up.bx 6 55 #[.int .i64 0,.string (⟨#[]⟩ : ByteArray),.int .i64 0,.slice none 0 0,.slice none 0 0] ?_;intro gb201 hg w13 hbox hb;have n0_:=Up.BB HB hb;have n1_:=Aside0.mk (hbox);have n2_:=Up.gw hg HB;have n3_:=Up.gw hg HB;clear HB;have HB:=n0_;have BK201:=n1_;have GW201:=n2_;have GE201:=n3_;clear n0_ n1_ n2_ n3_ hb hbox hg;have hcz14_0:=Up.c0 BK201;have hcz14_1:=Up.c1 BK201;have hcz14_2:=Up.c2 BK201;have hcz14_3:=Up.c3 BK201;have hcz14_4:=Up.c4 BK201;have hfz14_0:=blk_frozen BK201.out 0;have hfz14_1:=blk_frozen BK201.out 1;have hfz14_2:=blk_frozen BK201.out 2;have hfz14_3:=blk_frozen BK201.out 3;have hfz14_4:=blk_frozen BK201.out 4))
         (try simp only [Act.put,List.setIfInBounds_toArray,List.set_cons_zero,List.set_cons_succ])
         go_cut [36] (fun v36 wc => ∃ (kq : Nat) (x36_11 : Bool),v36 = .bool x36_11 ∧ Aside0 (impl_VaultsOk.j2 kq l0 l1 x17_2 l1 (l1.length : Int) x17_2 x36_11 ((rd_T55 l1 x17_2).f0) ((rd_T55 l1 x17_2).f1.f0) ((rd_T55 l1 x17_2).f1.f1) ((rd_T55 l1 x17_2).f1.f2) ((rd_T55 l1 x17_2).f1.f3) = some r) ∧ Aside0 (kq ≤ k2) ∧ Aside0 (wc.heap[gb201]? = some (.cells #[.int .i64 ((rd_T55 l1 x17_2).f0),.string ((rd_T55 l1 x17_2).f1.f0),.int .i64 ((rd_T55 l1 x17_2).f1.f1),(.slice A200_3 ((rd_T55 l1 x17_2).f1.f2).length c200_3),(.slice A200_4 ((rd_T55 l1 x17_2).f1.f3).length c200_4)] 55 (0,0))) ∧ Aside0 (Below w.heap.size w wc))
         case first =>
          have H:=HC12.out
          clear HC12
          by_cases c15 : ((rd_T55 l1 x17_2).f0) < 0
          ·rw [if_pos c15] at H
           have c15b0 : decide (((rd_T55 l1 x17_2).f0) < 0) = true:=decide_eq_true c15
           clear c15
           (first | rw [c15b0] | (simp only [i64_w,i32_w];rw [c15b0]) | skip)
           have H':=Aside0.mk H
           clear H
           have hcz16_0:=Up.c0 BK201
           have hcz16_1:=Up.c1 BK201
           have hcz16_2:=Up.c2 BK201
           have hcz16_3:=Up.c3 BK201
           have hcz16_4:=Up.c4 BK201
           have hfz16_0:=blk_frozen BK201.out 0
           have hfz16_1:=blk_frozen BK201.out 1
           have hfz16_2:=blk_frozen BK201.out 2
           have hfz16_3:=blk_frozen BK201.out 3
           have hfz16_4:=blk_frozen BK201.out 4
           go_wp2
           go_meet
           case rel => exact ⟨_,(true),(by first | rfl | (simp;done) | (simp [*];done)),H',⟨by have:=HJ2.out;have:=HK2.out;first | omega | exact Nat.le_refl _⟩,⟨by (with_reducible repeat (first | refine blk_drewN ?_ _ | refine blk_drew ?_ | refine blk_alloc ?_ _));refine blk_put (cs:=#[.int .i64 ((rd_T55 l1 x17_2).f0),.string ((rd_T55 l1 x17_2).f1.f0),.int .i64 ((rd_T55 l1 x17_2).f1.f1),.slice A200_3 ((rd_T55 l1 x17_2).f1.f2).length c200_3,.slice none 0 0]) ?_ 4 _ rfl;(with_reducible repeat (first | refine blk_drewN ?_ _ | refine blk_drew ?_ | refine blk_alloc ?_ _));refine blk_put (cs:=#[.int .i64 ((rd_T55 l1 x17_2).f0),.string ((rd_T55 l1 x17_2).f1.f0),.int .i64 ((rd_T55 l1 x17_2).f1.f1),.slice none 0 0,.slice none 0 0]) ?_ 3 _ rfl;(with_reducible repeat (first | refine blk_drewN ?_ _ | refine blk_drew ?_ | refine blk_alloc ?_ _));refine blk_put (cs:=#[.int .i64 ((rd_T55 l1 x17_2).f0),.string ((rd_T55 l1 x17_2).f1.f0),.int .i64 0,.slice none 0 0,.slice none 0 0]) ?_ 2 _ rfl;(with_reducible repeat (first | refine blk_drewN ?_ _ | refine blk_drew ?_ | refine blk_alloc ?_ _));refine blk_put (cs:=#[.int .i64 ((rd_T55 l1 x17_2).f0),.string (⟨#[]⟩ : ByteArray),.int .i64 0,.slice none 0 0,.slice none 0 0]) ?_ 1 _ rfl;(with_reducible repeat (first | refine blk_drewN ?_ _ | refine blk_drew ?_ | refine blk_alloc ?_ _));refine blk_put (cs:=#[.int .i64 0,.string (⟨#[]⟩ : ByteArray),.int .i64 0,.slice none 0 0,.slice none 0 0]) ?_ 0 _ rfl;(with_reducible repeat (first | refine blk_drewN ?_ _ | refine blk_drew ?_ | refine blk_alloc ?_ _));exact BK201.out⟩,⟨Up.Bx HB⟩⟩
          ·rw [if_neg c15] at H
           have c15b0 : decide (((rd_T55 l1 x17_2).f0) < 0) = false:=decide_eq_false c15
           clear c15
           (first | rw [c15b0] | (simp only [i64_w,i32_w];rw [c15b0]) | skip)
           by_cases c17 : ((rd_T55 l1 x17_2).f0) ≥ 4
           ·rw [if_pos c17] at H
            have c17b0 : decide (4 ≤ ((rd_T55 l1 x17_2).f0)) = true:=decide_eq_true c17
            clear c17
            have H':=Aside0.mk H
            clear H
            have hcz18_0:=Up.c0 BK201
            have hcz18_1:=Up.c1 BK201
            have hcz18_2:=Up.c2 BK201
            have hcz18_3:=Up.c3 BK201
            have hcz18_4:=Up.c4 BK201
            have hfz18_0:=blk_frozen BK201.out 0
            have hfz18_1:=blk_frozen BK201.out 1
            have hfz18_2:=blk_frozen BK201.out 2
            have hfz18_3:=blk_frozen BK201.out 3
            have hfz18_4:=blk_frozen BK201.out 4
            go_wp2
            go_meet
            case rel => exact ⟨_,(true),(by first | rfl | (simp;done) | (simp [*];done)),H',⟨by have:=HJ2.out;have:=HK2.out;first | omega | exact Nat.le_refl _⟩,⟨by (with_reducible repeat (first | refine blk_drewN ?_ _ | refine blk_drew ?_ | refine blk_alloc ?_ _));refine blk_put (cs:=#[.int .i64 ((rd_T55 l1 x17_2).f0),.string ((rd_T55 l1 x17_2).f1.f0),.int .i64 ((rd_T55 l1 x17_2).f1.f1),.slice A200_3 ((rd_T55 l1 x17_2).f1.f2).length c200_3,.slice none 0 0]) ?_ 4 _ rfl;(with_reducible repeat (first | refine blk_drewN ?_ _ | refine blk_drew ?_ | refine blk_alloc ?_ _));refine blk_put (cs:=#[.int .i64 ((rd_T55 l1 x17_2).f0),.string ((rd_T55 l1 x17_2).f1.f0),.int .i64 ((rd_T55 l1 x17_2).f1.f1),.slice none 0 0,.slice none 0 0]) ?_ 3 _ rfl;(with_reducible repeat (first | refine blk_drewN ?_ _ | refine blk_drew ?_ | refine blk_alloc ?_ _));refine blk_put (cs:=#[.int .i64 ((rd_T55 l1 x17_2).f0),.string ((rd_T55 l1 x17_2).f1.f0),.int .i64 0,.slice none 0 0,.slice none 0 0]) ?_ 2 _ rfl;(with_reducible repeat (first | refine blk_drewN ?_ _ | refine blk_drew ?_ | refine blk_alloc ?_ _));refine blk_put (cs:=#[.int .i64 ((rd_T55 l1 x17_2).f0),.string (⟨#[]⟩ : ByteArray),.int .i64 0,.slice none 0 0,.slice none 0 0]) ?_ 1 _ rfl;(with_reducible repeat (first | refine blk_drewN ?_ _ | refine blk_drew ?_ | refine blk_alloc ?_ _));refine blk_put (cs:=#[.int .i64 0,.string (⟨#[]⟩ : ByteArray),.int .i64 0,.slice none 0 0,.slice none 0 0]) ?_ 0 _ rfl;(with_reducible repeat (first | refine blk_drewN ?_ _ | refine blk_drew ?_ | refine blk_alloc ?_ _));exact BK201.out⟩,⟨Up.Bx HB⟩⟩
           ·rw [if_neg c17] at H
            have c17b0 : decide (4 ≤ ((rd_T55 l1 x17_2).f0)) = false:=decide_eq_false c17
            clear c17
            replace H:=Option.bind_eq_some_iff.mp H
            obtain ⟨t202,A190,H⟩:=H
            replace H : (impl_VaultsOk.j2 k2 l0 l1 x17_2 l1 (l1.length : Int) x17_2 (!t202) ((rd_T55 l1 x17_2).f0) ((rd_T55 l1 x17_2).f1.f0) ((rd_T55 l1 x17_2).f1.f1) ((rd_T55 l1 x17_2).f1.f2) ((rd_T55 l1 x17_2).f1.f3)) = some r:=H
            have A19:=Aside0.mk A190
            clear A190
            have H':=Aside0.mk H
            clear H
            have hcz20_0:=Up.c0 BK201
            have hcz20_1:=Up.c1 BK201
            have hcz20_2:=Up.c2 BK201
            have hcz20_3:=Up.c3 BK201
            have hcz20_4:=Up.c4 BK201
            have hfz20_0:=blk_frozen BK201.out 0
            have hfz20_1:=blk_frozen BK201.out 1
            have hfz20_2:=blk_frozen BK201.out 2
            have hfz20_3:=blk_frozen BK201.out 3
            have hfz20_4:=blk_frozen BK201.out 4
            go_wp2_with (first | (go_at_call 66;(with_reducible refine (impl_keepable.calls k2 _ _ l0 ((rd_T55 l1 x17_2).f1.f0) ((rd_T55 l1 x17_2).f1.f1) _ _ ((rd_T55 l1 x17_2).f1.f2) _ _ ((rd_T55 l1 x17_2).f1.f3) t202 _ ?side1 ?side2 ?side3 ?side4 ?side5 ?side6 A19.out).mono ?_);(case side1 => exact Kd.C_below HR0.out (Up.Bx HB));(case side2 => exact HC0.out);(case side3 => exact Kd.C_below HR200_3.out (Up.Bx HB));(case side4 => exact HC200_3.out);(case side5 => exact Kd.C_below HR200_4.out (Up.Bx HB));(case side6 => exact HC200_4.out);rintro e w21 ⟨rfl,hb⟩;have n0_:=Aside0.mk (blk_below (g:=gb201) (o:=.cells #[.int .i64 ((rd_T55 l1 x17_2).f0),.string ((rd_T55 l1 x17_2).f1.f0),.int .i64 ((rd_T55 l1 x17_2).f1.f1),.slice A200_3 ((rd_T55 l1 x17_2).f1.f2).length c200_3,.slice A200_4 ((rd_T55 l1 x17_2).f1.f3).length c200_4] 55 (0,0)) (Up.Kx BK201) hb);have n1_:=Aside0.mk (below_step (Up.Bx HB) hb);clear BK201 HB;have BK201:=n0_;have HB:=n1_;clear n0_ n1_;(try clear hb);(try clear hb2);(try clear hk);(try clear hi)))
            go_meet
            case rel => exact ⟨_,(!t202),(by first | rfl | (simp;done) | (simp [*];done)),H',⟨by have:=HJ2.out;have:=HK2.out;first | omega | exact Nat.le_refl _⟩,⟨by (with_reducible repeat (first | refine blk_drewN ?_ _ | refine blk_drew ?_ | refine blk_alloc ?_ _));exact BK201.out⟩,⟨Up.Bx HB⟩⟩
         case rest =>
          clear HC12
          try clear c1
          try clear c2
          try clear p2
          try clear q2
          try clear hx2
          try clear c4
          try clear c5
          try clear c8
          try clear c9
          try clear c9b0
          try clear c10
          try clear c10b0
          try clear c11
          try clear c11b0
          try clear c15
          try clear c15b0
          try clear c17
          try clear c17b0
          try clear c20
          try clear p20
          try clear q20
          try clear hx20
          try clear hcz14_0
          try clear hcz14_1
          try clear hcz14_2
          try clear hcz14_3
          try clear hcz14_4
          try clear hcz16_0
          try clear hcz16_1
          try clear hcz16_2
          try clear hcz16_3
          try clear hcz16_4
          try clear hcz18_0
          try clear hcz18_1
          try clear hcz18_2
          try clear hcz18_3
          try clear hcz18_4
          try clear hcz20_0
          try clear hcz20_1
          try clear hcz20_2
          try clear hcz20_3
          try clear hcz20_4
          try clear hfz14_0
          try clear hfz14_1
          try clear hfz14_2
          try clear hfz14_3
          try clear hfz14_4
          try clear hfz16_0
          try clear hfz16_1
          try clear hfz16_2
          try clear hfz16_3
          try clear hfz16_4
          try clear hfz18_0
          try clear hfz18_1
          try clear hfz18_2
          try clear hfz18_3
          try clear hfz18_4
          try clear hfz20_0
          try clear hfz20_1
          try clear hfz20_2
          try clear hfz20_3
          try clear hfz20_4
          try clear hx200_0
          try clear hx200_1
          try clear hx200_2
          try clear hx200_3
          try clear hx200_4
          try clear p2
          try clear p200
          try clear q200
          obtain ⟨kq,x36_11,rfl,HA,HJ11,BK201,HB⟩:=hcut
          cases kq with
          | zero => exact absurd HA.out (by simp [impl_VaultsOk.j2])
          | succ kj11 =>
           have H:=HA.out
           clear HA
           simp only [impl_VaultsOk.j2] at H
           by_cases c22 : x36_11 = true
           ·subst c22
            have H1 : (some false) = some r:=by rw [if_pos rfl] at H;exact H
            clear H
            have H:=H1
            clear H1
            obtain rfl:=Option.some.inj H
            go_wp2
            go_ret
            exact Up.e1 (Up.Bx HB)
           ·replace c22:=Bool.eq_false_iff.mpr c22
            subst c22
            have H1 : (if x17_2 > 0 then (if 0 ≤ (wrap64 (x17_2 - 1)) then (if (wrap64 (x17_2 - 1)) < (l1.length : Int) then ((impl_vaultBefore.f ((rd_T55 l1 (wrap64 (x17_2 - 1))).f0) ((rd_T55 l1 (wrap64 (x17_2 - 1))).f1.f0) ((rd_T55 l1 (wrap64 (x17_2 - 1))).f1.f1) ((rd_T55 l1 (wrap64 (x17_2 - 1))).f1.f2) ((rd_T55 l1 (wrap64 (x17_2 - 1))).f1.f3) ((rd_T55 l1 x17_2).f0) ((rd_T55 l1 x17_2).f1.f0) ((rd_T55 l1 x17_2).f1.f1) ((rd_T55 l1 x17_2).f1.f2) ((rd_T55 l1 x17_2).f1.f3)).bind fun t204 => (if t204 = true then (impl_VaultsOk.l0 kj11 l0 l1 l1 (l1.length : Int) (wrap64 (x17_2 + 1))) else (some false))) else (none)) else (none)) else (impl_VaultsOk.l0 kj11 l0 l1 l1 (l1.length : Int) (wrap64 (x17_2 + 1)))) = some r:=by rw [if_neg (show ¬ (false = true) by decide)] at H;exact H
            clear H
            have H:=H1
            clear H1
            by_cases c23 : x17_2 > 0
            ·rw [if_pos c23] at H
             have c23b0 : decide (0 < x17_2) = true:=decide_eq_true c23
             clear c23
             obtain ⟨ji24,hji24⟩ : ∃ j_ : Int,(wrap64 (x17_2 - 1)) = j_:=⟨_,rfl⟩
             replace H : (if 0 ≤ (ji24) then (if (ji24) < (l1.length : Int) then ((impl_vaultBefore.f ((rd_T55 l1 (ji24)).f0) ((rd_T55 l1 (ji24)).f1.f0) ((rd_T55 l1 (ji24)).f1.f1) ((rd_T55 l1 (ji24)).f1.f2) ((rd_T55 l1 (ji24)).f1.f3) ((rd_T55 l1 x17_2).f0) ((rd_T55 l1 x17_2).f1.f0) ((rd_T55 l1 x17_2).f1.f1) ((rd_T55 l1 x17_2).f1.f2) ((rd_T55 l1 x17_2).f1.f3)).bind fun t204 => (if t204 = true then (impl_VaultsOk.l0 kj11 l0 l1 l1 (l1.length : Int) (wrap64 (x17_2 + 1))) else (some false))) else (none)) else (none)) = some r:=by first | (rw [hji24] at H;exact H) | (simp only [hji24] at H ⊢;exact H)
             have hji24w : (IntKind.i64.wrap (x17_2 - 1)) = ji24:=(i64_w _).trans hji24
             by_cases c25 : 0 ≤ (ji24)
             ·rw [if_pos c25] at H
              have c25b0 : decide (0 ≤ (ji24)) = true:=decide_eq_true c25
              clear c25
              by_cases c26 : (ji24) < (l1.length : Int)
              ·rw [if_pos c26] at H
               have c26b0 : decide ((ji24) < (l1.length : Int)) = true:=decide_eq_true c26
               clear c26
               replace H:=Option.bind_eq_some_iff.mp H
               obtain ⟨t204,A270,H⟩:=H
               replace H : (if t204 = true then (impl_VaultsOk.l0 kj11 l0 l1 l1 (l1.length : Int) (wrap64 (x17_2 + 1))) else (some false)) = some r:=H
               have A27:=Aside0.mk A270
               clear A270
               by_cases c28 : t204 = true
               ·subst c28
                have H1 : (impl_VaultsOk.l0 kj11 l0 l1 l1 (l1.length : Int) (wrap64 (x17_2 + 1))) = some r:=by rw [if_pos rfl] at H;exact H
                clear H
                have H:=H1
                clear H1
                have H':=Aside0.mk H
                clear H
                try go_wp2
                have n0_:=Aside0.mk (blk_drew BK201.out)
                have n1_:=Aside0.mk (below_drew1 HB.out)
                clear BK201
                clear HB
                have BK201:=n0_
                have HB:=n1_
                clear n0_ n1_
                have p203 : 0 ≤ ((ji24) : Int):=Up.od
                have q203 : (ji24) < (l1.length : Int):=Up.od
                obtain ⟨ad203,A203_3,c203_3,A203_4,c203_4,e203,hx203_0,hx203_1,hx203_2,hx203_3,hx203_4,hl203_3,hi203_3,hl203_4,hi203_4⟩:=at_T55 HR1.out (ji24) p203 q203
                have hw203_4:=hx203_4
                have hw203_3:=hx203_3
                have hw203_2:=hx203_2
                have hw203_1:=hx203_1
                have hw203_0:=hx203_0
                obtain rfl : ad200 = ad203:=(by injection e203)
                replace hx203_0:=Up.hc HB hx203_0
                replace hx203_1:=Up.hc HB hx203_1
                replace hx203_2:=Up.hc HB hx203_2
                replace hx203_3:=Up.hc HB hx203_3
                replace hx203_4:=Up.hc HB hx203_4
                have HR203_3:=Aside0.mk hi203_3
                have HC203_3:=Aside0.mk hl203_3
                clear hi203_3 hl203_3
                have HR203_4:=Aside0.mk hi203_4
                have HC203_4:=Aside0.mk hl203_4
                clear hi203_4 hl203_4
                replace p203:=eq_true p203
                replace q203:=eq_true q203
                refine start_ (n:=12) (S:=fun w' => w'.cell? ⟨gb201,0,none⟩ = some (.int .i64 ((rd_T55 l1 x17_2).f0)) ∧ w'.cell? ⟨gb201,1,none⟩ = some (.string ((rd_T55 l1 x17_2).f1.f0)) ∧ w'.cell? ⟨gb201,2,none⟩ = some (.int .i64 ((rd_T55 l1 x17_2).f1.f1)) ∧ w'.cell? ⟨gb201,3,none⟩ = some (.slice A200_3 ((rd_T55 l1 x17_2).f1.f2).length c200_3) ∧ w'.cell? ⟨gb201,4,none⟩ = some (.slice A200_4 ((rd_T55 l1 x17_2).f1.f3).length c200_4) ∧ w'.cell? (ad200.add (((ji24)).toNat * 5)) = some (.int .i64 ((rd_T55 l1 (ji24)).f0)) ∧ w'.cell? ⟨(ad200.add (((ji24)).toNat * 5)).block,(ad200.add (((ji24)).toNat * 5)).off + 1,none⟩ = some (.string ((rd_T55 l1 (ji24)).f1.f0)) ∧ w'.cell? ⟨(ad200.add (((ji24)).toNat * 5)).block,(ad200.add (((ji24)).toNat * 5)).off + 2,none⟩ = some (.int .i64 ((rd_T55 l1 (ji24)).f1.f1)) ∧ w'.cell? ⟨(ad200.add (((ji24)).toNat * 5)).block,(ad200.add (((ji24)).toNat * 5)).off + 3,none⟩ = some (.slice A203_3 ((rd_T55 l1 (ji24)).f1.f2).length c203_3) ∧ w'.cell? ⟨(ad200.add (((ji24)).toNat * 5)).block,(ad200.add (((ji24)).toNat * 5)).off + 4,none⟩ = some (.slice A203_4 ((rd_T55 l1 (ji24)).f1.f3).length c203_4)) (ds:=[]) #[false,false,false,false,false,false,false,false,false,false,false,false] (by kernel_rfl) rfl rfl ⟨Up.c0 BK201,Up.c1 BK201,Up.c2 BK201,Up.c3 BK201,Up.c4 BK201,(Up.hd HB hw203_0),(Up.hd HB hw203_1),(Up.hd HB hw203_2),(Up.hd HB hw203_3),(Up.hd HB hw203_4)⟩ (fun hHeld => ?_);refine with_tabW impl_VaultsOk.tab8 impl_VaultsOk.bits8 (fun HT_ HW_ => ?_)
                generalize wc.drew = w29 at BK201 HB HR203_3 HR203_4 hx203_0 hx203_1 hx203_2 hx203_3 hx203_4 hHeld ⊢
                refine Up.pu 0 (some 37) HT_ ?_
                refine Up.pu 1 (some 38) HT_ ?_
                refine Up.pu 2 (some 39) HT_ ?_
                refine Up.pu 3 (some 40) HT_ ?_
                refine Up.pu 4 (some 41) HT_ ?_
                refine Up.pu 5 (some 42) HT_ ?_
                refine Up.pu 6 (some 43) HT_ ?_
                refine Up.tk 7 (some 44) HT_ HW_ hHeld ?_ (hy:=by rintro w' ⟨s0,s1,s2,s3,s4,s5,s6,s7,s8,s9⟩;go_simp;with_reducible rfl)
                refine Up.tk 8 (some 45) HT_ HW_ hHeld ?_ (hy:=by rintro w' ⟨s0,s1,s2,s3,s4,s5,s6,s7,s8,s9⟩;go_simp;with_reducible rfl)
                refine Up.on 9 (some 46) HT_ (fun K hK => ?_)
                refine goes_ Try.func67 (by kernel_rfl) rfl #[.agg #[.int .i64 ((rd_T55 l1 (ji24)).f0),.string ((rd_T55 l1 (ji24)).f1.f0),.int .i64 ((rd_T55 l1 (ji24)).f1.f1),.slice A203_3 ((rd_T55 l1 (ji24)).f1.f2).length c203_3,.slice A203_4 ((rd_T55 l1 (ji24)).f1.f3).length c203_4],.agg #[.int .i64 ((rd_T55 l1 x17_2).f0),.string ((rd_T55 l1 x17_2).f1.f0),.int .i64 ((rd_T55 l1 x17_2).f1.f1),.slice A200_3 ((rd_T55 l1 x17_2).f1.f2).length c200_3,.slice A200_4 ((rd_T55 l1 x17_2).f1.f3).length c200_4]] (by rfl) rfl rfl (by (try simp only [List.map_toArray,List.map_cons,List.map_nil]);first | done | (simp only [hji24];rfl) | rfl | (simp only [List.length_drop,List.length_take];rfl)) ?_
                with_reducible refine (impl_vaultBefore.calls ((rd_T55 l1 (ji24)).f0) ((rd_T55 l1 (ji24)).f1.f0) ((rd_T55 l1 (ji24)).f1.f1) _ _ ((rd_T55 l1 (ji24)).f1.f2) _ _ ((rd_T55 l1 (ji24)).f1.f3) ((rd_T55 l1 x17_2).f0) ((rd_T55 l1 x17_2).f1.f0) ((rd_T55 l1 x17_2).f1.f1) _ _ ((rd_T55 l1 x17_2).f1.f2) _ _ ((rd_T55 l1 x17_2).f1.f3) true _ ?side1 ?side2 ?side3 ?side4 ?side5 ?side6 ?side7 ?side8 A27.out).mono ?_
                (case side1 => exact Up.Cx HR203_3 HB)
                (case side2 => exact HC203_3.out)
                (case side3 => exact Up.Cx HR203_4 HB)
                (case side4 => exact HC203_4.out)
                (case side5 => exact Up.Cx HR200_3 HB)
                (case side6 => exact HC200_3.out)
                (case side7 => exact Up.Cx HR200_4 HB)
                (case side8 => exact HC200_4.out)
                rintro e w30 ⟨rfl,hb⟩
                refine ⟨_,rfl,?_⟩
                have n0_:=Up.KB BK201 hb
                have n1_:=Aside0.mk (below_step (Up.Bx HB) hb)
                clear BK201
                clear HB
                have BK201:=n0_
                have HB:=n1_
                clear n0_ n1_
                (try clear hb)
                (try clear hb2)
                (try clear hk)
                (try clear hi)
                refine hK.out _ _ ⟨Up.c0 BK201,Up.c1 BK201,Up.c2 BK201,Up.c3 BK201,Up.c4 BK201,(Up.hd HB hw203_0),(Up.hd HB hw203_1),(Up.hd HB hw203_2),(Up.hd HB hw203_3),(Up.hd HB hw203_4)⟩ (fun hHeld => ?_)
                clear hK K
                refine Up.nm 46 ?_
                refine Up.pu 10 (some 47) HT_ ?_
                refine Up.pu 11 (some 48) HT_ ?_
                refine done_ (done_of HT_.out (by kernel_rfl)) ?_
                try go_wp2
                go_roundg kj11
                case measure => have:=HJ2.out;have:=HK2.out;have:=HJ11.out;omega
                case rel => exact ⟨(wrap64 (x17_2 + 1)),(by first | rfl | (simp;done) | (simp [*];done)),H',⟨by have:=HJ2.out;have:=HK2.out;have:=HJ11.out;omega⟩,⟨Up.Bx HB⟩⟩
               ·replace c28:=Bool.eq_false_iff.mpr c28
                subst c28
                have H1 : (some false) = some r:=by rw [if_neg (show ¬ (false = true) by decide)] at H;exact H
                clear H
                have H:=H1
                clear H1
                obtain rfl:=Option.some.inj H
                try go_wp2
                have n0_:=Aside0.mk (blk_drew BK201.out)
                have n1_:=Aside0.mk (below_drew1 HB.out)
                clear BK201
                clear HB
                have BK201:=n0_
                have HB:=n1_
                clear n0_ n1_
                have p203 : 0 ≤ ((ji24) : Int):=Up.od
                have q203 : (ji24) < (l1.length : Int):=Up.od
                obtain ⟨ad203,A203_3,c203_3,A203_4,c203_4,e203,hx203_0,hx203_1,hx203_2,hx203_3,hx203_4,hl203_3,hi203_3,hl203_4,hi203_4⟩:=at_T55 HR1.out (ji24) p203 q203
                have hw203_4:=hx203_4
                have hw203_3:=hx203_3
                have hw203_2:=hx203_2
                have hw203_1:=hx203_1
                have hw203_0:=hx203_0
                obtain rfl : ad200 = ad203:=(by injection e203)
                replace hx203_0:=Up.hc HB hx203_0
                replace hx203_1:=Up.hc HB hx203_1
                replace hx203_2:=Up.hc HB hx203_2
                replace hx203_3:=Up.hc HB hx203_3
                replace hx203_4:=Up.hc HB hx203_4
                have HR203_3:=Aside0.mk hi203_3
                have HC203_3:=Aside0.mk hl203_3
                clear hi203_3 hl203_3
                have HR203_4:=Aside0.mk hi203_4
                have HC203_4:=Aside0.mk hl203_4
                clear hi203_4 hl203_4
                replace p203:=eq_true p203
                replace q203:=eq_true q203
                refine start_ (n:=12) (S:=fun w' => w'.cell? ⟨gb201,0,none⟩ = some (.int .i64 ((rd_T55 l1 x17_2).f0)) ∧ w'.cell? ⟨gb201,1,none⟩ = some (.string ((rd_T55 l1 x17_2).f1.f0)) ∧ w'.cell? ⟨gb201,2,none⟩ = some (.int .i64 ((rd_T55 l1 x17_2).f1.f1)) ∧ w'.cell? ⟨gb201,3,none⟩ = some (.slice A200_3 ((rd_T55 l1 x17_2).f1.f2).length c200_3) ∧ w'.cell? ⟨gb201,4,none⟩ = some (.slice A200_4 ((rd_T55 l1 x17_2).f1.f3).length c200_4) ∧ w'.cell? (ad200.add (((ji24)).toNat * 5)) = some (.int .i64 ((rd_T55 l1 (ji24)).f0)) ∧ w'.cell? ⟨(ad200.add (((ji24)).toNat * 5)).block,(ad200.add (((ji24)).toNat * 5)).off + 1,none⟩ = some (.string ((rd_T55 l1 (ji24)).f1.f0)) ∧ w'.cell? ⟨(ad200.add (((ji24)).toNat * 5)).block,(ad200.add (((ji24)).toNat * 5)).off + 2,none⟩ = some (.int .i64 ((rd_T55 l1 (ji24)).f1.f1)) ∧ w'.cell? ⟨(ad200.add (((ji24)).toNat * 5)).block,(ad200.add (((ji24)).toNat * 5)).off + 3,none⟩ = some (.slice A203_3 ((rd_T55 l1 (ji24)).f1.f2).length c203_3) ∧ w'.cell? ⟨(ad200.add (((ji24)).toNat * 5)).block,(ad200.add (((ji24)).toNat * 5)).off + 4,none⟩ = some (.slice A203_4 ((rd_T55 l1 (ji24)).f1.f3).length c203_4)) (ds:=[]) #[false,false,false,false,false,false,false,false,false,false,false,false] (by kernel_rfl) rfl rfl ⟨Up.c0 BK201,Up.c1 BK201,Up.c2 BK201,Up.c3 BK201,Up.c4 BK201,(Up.hd HB hw203_0),(Up.hd HB hw203_1),(Up.hd HB hw203_2),(Up.hd HB hw203_3),(Up.hd HB hw203_4)⟩ (fun hHeld => ?_);refine with_tabW impl_VaultsOk.tab8 impl_VaultsOk.bits8 (fun HT_ HW_ => ?_)
                generalize wc.drew = w31 at BK201 HB HR203_3 HR203_4 hx203_0 hx203_1 hx203_2 hx203_3 hx203_4 hHeld ⊢
                refine Up.pu 0 (some 37) HT_ ?_
                refine Up.pu 1 (some 38) HT_ ?_
                refine Up.pu 2 (some 39) HT_ ?_
                refine Up.pu 3 (some 40) HT_ ?_
                refine Up.pu 4 (some 41) HT_ ?_
                refine Up.pu 5 (some 42) HT_ ?_
                refine Up.pu 6 (some 43) HT_ ?_
                refine Up.tk 7 (some 44) HT_ HW_ hHeld ?_ (hy:=by rintro w' ⟨s0,s1,s2,s3,s4,s5,s6,s7,s8,s9⟩;go_simp;with_reducible rfl)
                refine Up.tk 8 (some 45) HT_ HW_ hHeld ?_ (hy:=by rintro w' ⟨s0,s1,s2,s3,s4,s5,s6,s7,s8,s9⟩;go_simp;with_reducible rfl)
                refine Up.on 9 (some 46) HT_ (fun K hK => ?_)
                refine goes_ Try.func67 (by kernel_rfl) rfl #[.agg #[.int .i64 ((rd_T55 l1 (ji24)).f0),.string ((rd_T55 l1 (ji24)).f1.f0),.int .i64 ((rd_T55 l1 (ji24)).f1.f1),.slice A203_3 ((rd_T55 l1 (ji24)).f1.f2).length c203_3,.slice A203_4 ((rd_T55 l1 (ji24)).f1.f3).length c203_4],.agg #[.int .i64 ((rd_T55 l1 x17_2).f0),.string ((rd_T55 l1 x17_2).f1.f0),.int .i64 ((rd_T55 l1 x17_2).f1.f1),.slice A200_3 ((rd_T55 l1 x17_2).f1.f2).length c200_3,.slice A200_4 ((rd_T55 l1 x17_2).f1.f3).length c200_4]] (by rfl) rfl rfl (by (try simp only [List.map_toArray,List.map_cons,List.map_nil]);first | done | (simp only [hji24];rfl) | rfl | (simp only [List.length_drop,List.length_take];rfl)) ?_
                with_reducible refine (impl_vaultBefore.calls ((rd_T55 l1 (ji24)).f0) ((rd_T55 l1 (ji24)).f1.f0) ((rd_T55 l1 (ji24)).f1.f1) _ _ ((rd_T55 l1 (ji24)).f1.f2) _ _ ((rd_T55 l1 (ji24)).f1.f3) ((rd_T55 l1 x17_2).f0) ((rd_T55 l1 x17_2).f1.f0) ((rd_T55 l1 x17_2).f1.f1) _ _ ((rd_T55 l1 x17_2).f1.f2) _ _ ((rd_T55 l1 x17_2).f1.f3) false _ ?side1 ?side2 ?side3 ?side4 ?side5 ?side6 ?side7 ?side8 A27.out).mono ?_
                (case side1 => exact Up.Cx HR203_3 HB)
                (case side2 => exact HC203_3.out)
                (case side3 => exact Up.Cx HR203_4 HB)
                (case side4 => exact HC203_4.out)
                (case side5 => exact Up.Cx HR200_3 HB)
                (case side6 => exact HC200_3.out)
                (case side7 => exact Up.Cx HR200_4 HB)
                (case side8 => exact HC200_4.out)
                rintro e w32 ⟨rfl,hb⟩
                refine ⟨_,rfl,?_⟩
                have n0_:=Up.KB BK201 hb
                have n1_:=Aside0.mk (below_step (Up.Bx HB) hb)
                clear BK201
                clear HB
                have BK201:=n0_
                have HB:=n1_
                clear n0_ n1_
                (try clear hb)
                (try clear hb2)
                (try clear hk)
                (try clear hi)
                refine hK.out _ _ ⟨Up.c0 BK201,Up.c1 BK201,Up.c2 BK201,Up.c3 BK201,Up.c4 BK201,(Up.hd HB hw203_0),(Up.hd HB hw203_1),(Up.hd HB hw203_2),(Up.hd HB hw203_3),(Up.hd HB hw203_4)⟩ (fun hHeld => ?_)
                clear hK K
                refine Up.nm 46 ?_
                refine Up.pu 10 (some 47) HT_ ?_
                refine Up.pu 11 (some 48) HT_ ?_
                refine done_ (done_of HT_.out (by kernel_rfl)) ?_
                try go_wp2
                go_ret
                exact ⟨by first | rfl | (simp [errW_none,errW_some] <;> rfl) | (simp only [← hji24];first | rfl | (simp [errW_none,errW_some] <;> rfl)) | (simp [*,errW_none,errW_some] <;> rfl),Up.Bx HB⟩
              ·rw [if_neg c26] at H
               exact absurd H (by simp)
             ·rw [if_neg c25] at H
              exact absurd H (by simp)
            ·rw [if_neg c23] at H
             have c23b0 : decide (0 < x17_2) = false:=decide_eq_false c23
             clear c23
             have H':=Aside0.mk H
             clear H
             try go_wp2
             have n0_:=Aside0.mk (blk_drew BK201.out)
             have n1_:=Aside0.mk (below_drew1 HB.out)
             clear BK201
             clear HB
             have BK201:=n0_
             have HB:=n1_
             clear n0_ n1_
             refine start_ (n:=12) (S:=fun w' => True) (ds:=[]) #[false,false,false,false,false,false,false,false,false,false,false,false] (by kernel_rfl) rfl rfl trivial (fun hHeld => ?_);refine with_tabW impl_VaultsOk.tab8 impl_VaultsOk.bits8 (fun HT_ HW_ => ?_)
             generalize wc.drew = w33 at BK201 HB hHeld ⊢
             refine Up.pu 0 (some 37) HT_ ?_
             refine Up.pu 1 (some 38) HT_ ?_
             refine Up.pu 2 (some 39) HT_ ?_
             refine Up.pz 3 (some 40) HT_ ?_
             refine Up.pz 4 (some 41) HT_ ?_
             refine Up.pz 5 (some 42) HT_ ?_
             refine Up.pz 6 (some 43) HT_ ?_
             refine Up.pz 7 (some 44) HT_ ?_
             refine Up.pz 8 (some 45) HT_ ?_
             refine Up.pz 9 (some 46) HT_ ?_
             refine Up.pz 10 (some 47) HT_ ?_
             refine Up.pu 11 (some 48) HT_ ?_
             refine done_ (done_of HT_.out (by kernel_rfl)) ?_
             try go_wp2
             go_roundg kj11
             case measure => have:=HJ2.out;have:=HK2.out;have:=HJ11.out;omega
             case rel => exact ⟨(wrap64 (x17_2 + 1)),(by first | rfl | (simp;done) | (simp [*];done)),H',⟨by have:=HJ2.out;have:=HK2.out;have:=HJ11.out;omega⟩,⟨Up.Bx HB⟩⟩
        ·rw [if_neg c11] at H
         exact absurd H (by simp)
       ·rw [if_neg c10] at H
        exact absurd H (by simp)
      ·rw [if_neg c9] at H
       have c9b0 : decide (x17_2 < (l1.length : Int)) = false:=decide_eq_false c9
       clear c9
       obtain rfl:=Option.some.inj H
       go_wp2
       go_ret
       exact Up.e1 (Up.Bup HB)

/-! ### spec_l6In: function 97 -/
def spec_l6In.f (a0 : Int) (a1 : Int) (a2 : Int) : Option (Bool):=if a0 ≥ a1 then (some (decide (a0 ≤ a2))) else (some false)
set_option maxHeartbeats 8000000 in
set_option maxRecDepth 100000 in
theorem spec_l6In.calls (a0 : Int) (a1 : Int) (a2 : Int) (r : Bool) (w : World) (h : spec_l6In.f a0 a1 a2 = some r) :
  Calls Try.prog 97 #[.int .i64 a0,.int .i64 a1,.int .i64 a2] w fun e w' => e = .returned (.bool r) ∧ Drawn0 w w':=by
 have H : (if a0 ≥ a1 then (some (decide (a0 ≤ a2))) else (some false)) = some r:=h
 clear h
 by_cases c4 : a0 ≥ a1
 ·rw [if_pos c4] at H
  have c4b0 : decide (a1 ≤ a0) = true:=decide_eq_true c4
  clear c4
  obtain rfl:=Option.some.inj H
  go_enter Try.func97,Try.ntmps97
  go_wp2
  go_ret
  exact Up.e2
 ·rw [if_neg c4] at H
  have c4b0 : decide (a1 ≤ a0) = false:=decide_eq_false c4
  clear c4
  obtain rfl:=Option.some.inj H
  go_enter Try.func97,Try.ntmps97
  go_wp2
  go_ret
  exact Up.e2

/-! ### spec_l1Can: function 100 -/
def spec_l1Can.f (a0 : Int) (a1 : Int) : Option (Bool):=if a1 = 0 then (none) else (some ((Int.tmod (wrap64 (Int.tdiv a0 a1)) 2) == 1))
set_option maxHeartbeats 8000000 in
set_option maxRecDepth 100000 in
theorem spec_l1Can.calls (a0 : Int) (a1 : Int) (r : Bool) (w : World) (h : spec_l1Can.f a0 a1 = some r) :
  Calls Try.prog 100 #[.int .i64 a0,.int .i64 a1] w fun e w' => e = .returned (.bool r) ∧ Drawn0 w w':=by
 have H : (if a1 = 0 then (none) else (some ((Int.tmod (wrap64 (Int.tdiv a0 a1)) 2) == 1))) = some r:=h
 clear h
 by_cases c3 : a1 = 0
 ·rw [if_pos c3] at H
  exact absurd H (by simp)
 ·rw [if_neg c3] at H
  have c3b0 : (a1 == 0) = false:=beq_eq_false_iff_ne.mpr c3
  have c3b1 : (a1 != 0) = true:=bne_iff_ne.mpr c3
  obtain rfl:=Option.some.inj H
  go_enter Try.func100,Try.ntmps100
  go_wp2
  go_ret
  exact Up.e2

end Go.Proofs.Ytdgmlakgnbmbbaa.OFnExactVaultsOk
