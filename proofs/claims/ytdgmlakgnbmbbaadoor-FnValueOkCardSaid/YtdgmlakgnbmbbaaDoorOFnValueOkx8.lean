-- Laid by a program of this session (wip/myprint.py): the kit's print of the functions, contracts of our own among them.
import Derived.Test.YtdgmlakgnbmbbaaDoorOFnValueOkx0
import Derived.Test.YtdgmlakgnbmbbaaDoorOFnValueOkx1
import Derived.Test.YtdgmlakgnbmbbaaDoorOFnValueOkx4
import Derived.Test.YtdgmlakgnbmbbaaDoorOFnValueOkx6
import Derived.Test.YtdgmlakgnbmbbaaDoorOFnValueOkx7
namespace Go.Proofs.YtdgmlakgnbmbbaaDoor.OFnValueOk
open Go.RowKit Go.Proofs.YtdgmlakgnbmbbaaDoorW.PrintWords Go.Proofs.YtdgmlakgnbmbbaaDoorW.PrintLast Go.Proofs.YtdgmlakgnbmbbaaDoorW.PrintMore
attribute [local go_sem] max2_int min2_int max_two min_two max_three min_three max_four min_four   -- for this text's walks alone
set_option linter.unusedVariables false
set_option linter.unusedSimpArgs false

/-! ### spec_DrawValueOk: function 7 -/
def spec_DrawValueOk.f (k : Nat) (l0 : List Int) : Option ((List (List (S81))) × ByteArray × Int × (List (S27)) × List Int):=(spec_l6Open.f l0).bind fun bt328 => ((spec_l91Kinds.f k bt328.1 bt328.2).bind fun bt331 => ((spec_l91Type.f k bt328.1 bt331.2 bt331.1 false).bind fun bt335 => ((spec_l91Value.f k bt328.1 bt335.2 bt331.1 bt335.1).bind fun bt337 => ((spec_l91Bad.f k bt328.1 bt337.2.2.2.2 bt337.1 bt337.2.1 bt337.2.2.1 bt337.2.2.2.1).bind fun bt346 => (some (bt331.1,bt346.1,bt346.2.1,bt346.2.2.1,bt346.2.2.2.1))))))
theorem spec_DrawValueOk.mono : ∀ a0 k,LeO (spec_DrawValueOk.f k a0) (spec_DrawValueOk.f (k + 1) a0):=by
 intro a0 k
 unfold spec_DrawValueOk.f
 repeat' first
   | (with_reducible exact spec_l91Bad.mono _ _ _ _ _ _ _)
   | (with_reducible exact spec_l91Kinds.mono _ _ _)
   | (with_reducible exact spec_l91Type.mono _ _ _ _ _)
   | (with_reducible exact spec_l91Value.mono _ _ _ _ _)
   | (with_reducible exact LeO.refl _)
   | (with_reducible exact LeO.none _)
   | (with_reducible refine LeO.ite ?_ ?_)
   | (with_reducible refine LeO.bind ?_ (fun _ => ?_))
   | exact spec_l91Bad.mono _ _ _ _ _ _ _
   | exact spec_l91Kinds.mono _ _ _
   | exact spec_l91Type.mono _ _ _ _ _
   | exact spec_l91Value.mono _ _ _ _ _
   | exact LeO.none _
   | refine LeO.ite ?_ ?_
   | refine LeO.bind ?_ (fun _ => ?_)
set_option maxHeartbeats 8000000 in
set_option maxRecDepth 100000 in
theorem spec_DrawValueOk.calls (k : Nat) (A0 : Option Addr) (c0 : Nat) (l0 : List Int) (r1 : List (List (S81))) (r2 : ByteArray) (r3 : Int) (r4 : List (S27)) (r5 : List Int) (w : World) (hr0 : Kd.C (Kd.int .u8) w A0 l0.length l0) (hc0 : l0.length ≤ c0) (h : spec_DrawValueOk.f k l0 = some (r1,r2,r3,r4,r5)) :
  Calls Tryd.prog 7 #[.slice A0 l0.length c0] w fun e w' => ∃ v0_ v3_ v4_ : Value,e = .returned (.tuple #[v0_,.agg #[.string r2,.int .i64 r3,v3_,v4_]]) ∧ Kd.N (Kd.slice 81 k81) 66 w' w.heap.size (fun k_ => (w.heap.size ≤ k_)) v0_ r1 ∧ Kd.V k27 27 w' w.heap.size (fun k_ => (w.heap.size ≤ k_) ∧ some k_ ≠ (v0_ : Value).ownBlock) v3_ r4 ∧ Kd.V (Kd.int .i64) 3 w' w.heap.size (fun k_ => (w.heap.size ≤ k_) ∧ some k_ ≠ (v0_ : Value).ownBlock) v4_ r5 ∧ Below w.heap.size w w':=by
 have hu27:=Tryd.underlying27
 have HR0:=Aside0.mk hr0
 have HC0:=Aside0.mk hc0
 clear hr0 hc0
 have HB:=Aside0.mk (Below.refl w.heap.size w)
 have H : ((spec_l6Open.f l0).bind fun bt328 => ((spec_l91Kinds.f k bt328.1 bt328.2).bind fun bt331 => ((spec_l91Type.f k bt328.1 bt331.2 bt331.1 false).bind fun bt335 => ((spec_l91Value.f k bt328.1 bt335.2 bt331.1 bt335.1).bind fun bt337 => ((spec_l91Bad.f k bt328.1 bt337.2.2.2.2 bt337.1 bt337.2.1 bt337.2.2.1 bt337.2.2.2.1).bind fun bt346 => (some (bt331.1,bt346.1,bt346.2.1,bt346.2.2.1,bt346.2.2.2.1))))))) = some (r1,r2,r3,r4,r5):=h
 clear h
 replace H:=Option.bind_eq_some_iff.mp H
 obtain ⟨⟨t328,t329⟩,A20,H⟩:=H
 replace H : ((spec_l91Kinds.f k t328 t329).bind fun bt331 => ((spec_l91Type.f k t328 bt331.2 bt331.1 false).bind fun bt335 => ((spec_l91Value.f k t328 bt335.2 bt331.1 bt335.1).bind fun bt337 => ((spec_l91Bad.f k t328 bt337.2.2.2.2 bt337.1 bt337.2.1 bt337.2.2.1 bt337.2.2.2.1).bind fun bt346 => (some (bt331.1,bt346.1,bt346.2.1,bt346.2.2.1,bt346.2.2.2.1)))))) = some (r1,r2,r3,r4,r5):=H
 have A2:=Aside0.mk A20
 clear A20
 replace H:=Option.bind_eq_some_iff.mp H
 obtain ⟨⟨t331,t334⟩,A30,H⟩:=H
 replace H : ((spec_l91Type.f k t328 t334 t331 false).bind fun bt335 => ((spec_l91Value.f k t328 bt335.2 t331 bt335.1).bind fun bt337 => ((spec_l91Bad.f k t328 bt337.2.2.2.2 bt337.1 bt337.2.1 bt337.2.2.1 bt337.2.2.2.1).bind fun bt346 => (some (t331,bt346.1,bt346.2.1,bt346.2.2.1,bt346.2.2.2.1))))) = some (r1,r2,r3,r4,r5):=H
 have A3:=Aside0.mk A30
 clear A30
 replace H:=Option.bind_eq_some_iff.mp H
 obtain ⟨⟨t335,t336⟩,A40,H⟩:=H
 replace H : ((spec_l91Value.f k t328 t336 t331 t335).bind fun bt337 => ((spec_l91Bad.f k t328 bt337.2.2.2.2 bt337.1 bt337.2.1 bt337.2.2.1 bt337.2.2.2.1).bind fun bt346 => (some (t331,bt346.1,bt346.2.1,bt346.2.2.1,bt346.2.2.2.1)))) = some (r1,r2,r3,r4,r5):=H
 have A4:=Aside0.mk A40
 clear A40
 replace H:=Option.bind_eq_some_iff.mp H
 obtain ⟨⟨t337,t338,t339,t342,t345⟩,A50,H⟩:=H
 replace H : ((spec_l91Bad.f k t328 t345 t337 t338 t339 t342).bind fun bt346 => (some (t331,bt346.1,bt346.2.1,bt346.2.2.1,bt346.2.2.2.1))) = some (r1,r2,r3,r4,r5):=H
 have A5:=Aside0.mk A50
 clear A50
 replace H:=Option.bind_eq_some_iff.mp H
 obtain ⟨⟨t346,t347,t348,t351,t354⟩,A60,H⟩:=H
 replace H : (some (t331,t346,t347,t348,t351)) = some (r1,r2,r3,r4,r5):=H
 have A6:=Aside0.mk A60
 clear A60
 simp only [Option.some.injEq,Prod.mk.injEq] at H
 obtain ⟨rfl,rfl,rfl,rfl,rfl⟩:=H
 go_enter Tryd.func7,Tryd.ntmps7
 try go_wp2_with (first | ((with_reducible refine gate_dst (N:=3) rfl ?_);refine Up.bx 3 27 #[.string (⟨#[]⟩ : ByteArray),.int .i64 0,.slice none 0 0,.slice none 0 0] ?_;intro gb327 hg w7 hbox hb;have n0_:=Up.BB HB hb;have n1_:=Aside0.mk (hbox);have n2_:=Up.gw hg HB;have n3_:=Up.gw hg HB;clear HB;have HB:=n0_;have BK327:=n1_;have GW327:=n2_;have GE327:=n3_;clear n0_ n1_ n2_ n3_ hb hbox hg) | ((with_reducible refine gate_callee (f:=23) rfl ?_);refine Up.gl (some 8) Tryd.func23 #[.slice A0 l0.length c0] ?_;(with_reducible refine (spec_l6Open.calls _ _ l0 t328 t329 w _ ?side1 ?side2 ?side3 A2.out).mono ?_);(case side1 => repeat (first | (with_reducible first | exact HB.out | apply below_alloc | apply pw_below_drewN | apply below_drew1 | refine below_set ?_ GE327.out) | exact HB.out));(case side2 => exact HR0.out);(case side3 => exact HC0.out);rintro e w8 ⟨g330,rfl,hi,hb,hb2⟩;refine ⟨_,rfl,?_⟩;have n0_:=Aside0.mk (blk_below (g:=gb327) (o:=.cells #[.string (⟨#[]⟩ : ByteArray),.int .i64 0,.slice none 0 0,.slice none 0 0] 27 (0,0)) (Up.Kup BK327) hb2);have n1_:=Aside0.mk (hb);have n2_:=Aside0.mk (hi);have n3_:=Aside0.mk (IsS79.ne_blk hi (blk_below (g:=gb327) (o:=.cells #[.string (⟨#[]⟩ : ByteArray),.int .i64 0,.slice none 0 0,.slice none 0 0] 27 (0,0)) (Up.Kup BK327) hb2) (by decide));have n4_:=Aside0.mk (Ne.symm (IsS79.ne_blk hi (blk_below (g:=gb327) (o:=.cells #[.string (⟨#[]⟩ : ByteArray),.int .i64 0,.slice none 0 0,.slice none 0 0] 27 (0,0)) (Up.Kup BK327) hb2) (by decide)));clear BK327 HB;have BK327:=n0_;have HB:=n1_;have HI330:=n2_;have NB330_327:=n3_;have NB327_330:=n4_;clear n0_ n1_ n2_ n3_ n4_;(try clear hb);(try clear hb2);(try clear hk);(try clear hi)) | ((with_reducible refine gate_callee (f:=24) rfl ?_);refine Up.gl (some 10) Tryd.func24 #[.pointer (some ⟨g330,0,none⟩)] ?_;(with_reducible refine (spec_l91Kinds.calls k g330 t328 t329 t331 t334 w _ ?side1 ?side2 A3.out).mono ?_);(case side1 => repeat (first | (with_reducible first | exact HI330.out | apply IsS79.alloc | apply IsS79.drewN | apply IsS79.drew | apply IsS79.set_1 | refine IsS79.far ?_ NB330_327.out _) | exact HI330.out));(case side2 => repeat (first | (with_reducible first | exact HB.out | apply below_alloc | apply pw_below_drewN | apply below_drew1 | refine below_set ?_ (IsS79.ge HI330.out) | refine below_set ?_ GE327.out) | exact HB.out));rintro e w9 ⟨v332,rfl,ho0,hi,hb,hk⟩;refine ⟨_,rfl,?_⟩;have n0_:=Aside0.mk (KeepBut.blk hk (g':=gb327) (o:=.cells #[.string (⟨#[]⟩ : ByteArray),.int .i64 0,.slice none 0 0,.slice none 0 0] 27 (0,0)) (Up.Kup BK327) NB327_330.out (by simp));have n1_:=Aside0.mk (Kd.N_lower (Kd.N_mono (ok':=fun k_ => (w.heap.size ≤ k_) ∧ k_ ≠ gb327 ∧ k_ ≠ g330) ho0 (fun k_ hk_ => ⟨(Nat.le_trans (below_size (by repeat (first | (with_reducible first | exact HB.out | apply below_alloc | apply pw_below_drewN | apply below_drew1 | refine below_set ?_ (IsS79.ge HI330.out) | refine below_set ?_ GE327.out) | exact HB.out))) hk_),(Kd.freshB (g:=gb327) (o:=.cells #[.string (⟨#[]⟩ : ByteArray),.int .i64 0,.slice none 0 0,.slice none 0 0] 27 (0,0)) (Up.Kup BK327) k_ hk_),(IsS79.fresh (by repeat (first | (with_reducible first | exact HI330.out | apply IsS79.alloc | apply IsS79.drewN | apply IsS79.drew | apply IsS79.set_1 | refine IsS79.far ?_ NB330_327.out _) | exact HI330.out)) k_ hk_)⟩)) (below_size (by repeat (first | (with_reducible first | exact HB.out | apply below_alloc | apply pw_below_drewN | apply below_drew1 | refine below_set ?_ (IsS79.ge HI330.out) | refine below_set ?_ GE327.out) | exact HB.out))));have n2_:=Aside0.mk (hb);have n3_:=Aside0.mk (hi);clear BK327 HB HI330;have BK327:=n0_;have HO333:=n1_;have HB:=n2_;have HI330:=n3_;clear n0_ n1_ n2_ n3_;(try clear hb);(try clear hb2);(try clear hk);(try clear hi);(try clear ho0);obtain ⟨Ao10,co10,eo10⟩:=Kd.N_slice HO333.out;subst eo10) | ((with_reducible refine gate_callee (f:=27) rfl ?_);refine Up.gl (some 16) Tryd.func27 #[.pointer (some ⟨g330,0,none⟩),.slice Ao10 t331.length co10,.bool false] ?_;(with_reducible refine (spec_l91Type.calls k g330 t328 t334 _ _ t331 false t335 t336 w _ ?side1 ?side2 ?side3 ?side4 A4.out).mono ?_);(case side1 => repeat (first | (with_reducible first | exact HI330.out | apply IsS79.alloc | apply IsS79.drewN | apply IsS79.drew | apply IsS79.set_1 | refine IsS79.far ?_ NB330_327.out _) | exact HI330.out));(case side2 => repeat (first | (with_reducible first | exact HB.out | apply below_alloc | apply pw_below_drewN | apply below_drew1 | refine below_set ?_ (IsS79.ge HI330.out) | refine below_set ?_ GE327.out) | exact HB.out));(case side3 => exact Kd.C_foot_ownV (base:=0) (Kd.N_V (Kd.N_mono (ok:=fun k_ => (((w.heap.size ≤ k_)) ∧ (k_ ≠ gb327 ∧ k_ ≠ g330))) (Up.Nup HO333) (fun k_ hk_ => (⟨hk_,hk_.2.2⟩ : _ ∧ k_ ≠ g330)))) (fun _ h_ => h_.2));(case side4 => exact (Kd.N_reads' HO333.out).2.1);rintro e w11 ⟨rfl,hi,hb,hk⟩;refine ⟨_,rfl,?_⟩;have n0_:=Aside0.mk (KeepBut.blk hk (g':=gb327) (o:=.cells #[.string (⟨#[]⟩ : ByteArray),.int .i64 0,.slice none 0 0,.slice none 0 0] 27 (0,0)) (Up.Kup BK327) NB327_330.out (by simp));have n1_:=Aside0.mk (Kd.N_mono (Kd.N_keep (Kd.N_mono (ok:=fun k_ => (((w.heap.size ≤ k_)) ∧ (k_ ≠ gb327 ∧ k_ ≠ g330))) (Up.Nup HO333) (fun k_ hk_ => (⟨hk_,hk_.2.2⟩ : _ ∧ k_ ≠ g330))) hk (fun _ h => h.2)) (fun _ h => h.1));have n2_:=Aside0.mk (hb);have n3_:=Aside0.mk (hi);clear BK327 HO333 HB HI330;have BK327:=n0_;have HO333:=n1_;have HB:=n2_;have HI330:=n3_;clear n0_ n1_ n2_ n3_;(try clear hb);(try clear hb2);(try clear hk);(try clear hi)) | ((with_reducible refine gate_callee (f:=26) rfl ?_);refine Up.gl (some 17) Tryd.func26 #[.pointer (some ⟨g330,0,none⟩),.slice Ao10 t331.length co10,.string t335] ?_;(with_reducible refine (spec_l91Value.calls k g330 t328 t336 _ _ t331 t335 t337 t338 t339 t342 t345 w _ ?side1 ?side2 ?side3 ?side4 A5.out).mono ?_);(case side1 => repeat (first | (with_reducible first | exact HI330.out | apply IsS79.alloc | apply IsS79.drewN | apply IsS79.drew | apply IsS79.set_1 | refine IsS79.far ?_ NB330_327.out _) | exact HI330.out));(case side2 => repeat (first | (with_reducible first | exact HB.out | apply below_alloc | apply pw_below_drewN | apply below_drew1 | refine below_set ?_ (IsS79.ge HI330.out) | refine below_set ?_ GE327.out) | exact HB.out));(case side3 => exact Kd.C_foot_ownV (base:=0) (Kd.N_V (Kd.N_mono (ok:=fun k_ => (((w.heap.size ≤ k_)) ∧ (k_ ≠ gb327 ∧ k_ ≠ g330))) (Up.Nup HO333) (fun k_ hk_ => (⟨hk_,hk_.2.2⟩ : _ ∧ k_ ≠ g330)))) (fun _ h_ => h_.2));(case side4 => exact (Kd.N_reads' HO333.out).2.1);rintro e w12 ⟨v340,v343,rfl,ho0,ho1,hi,hb,hk⟩;refine ⟨_,rfl,?_⟩;have n0_:=Aside0.mk (KeepBut.blk hk (g':=gb327) (o:=.cells #[.string (⟨#[]⟩ : ByteArray),.int .i64 0,.slice none 0 0,.slice none 0 0] 27 (0,0)) (Up.Kup BK327) NB327_330.out (by simp));have n1_:=Aside0.mk (Kd.N_mono (Kd.N_told (Kd.N_told (Kd.N_oldK (Kd.N_mono (ok:=fun k_ => (((w.heap.size ≤ k_)) ∧ (k_ ≠ gb327 ∧ k_ ≠ g330))) (Up.Nup HO333) (fun k_ hk_ => (⟨hk_,hk_.2.2⟩ : _ ∧ k_ ≠ g330))) hk) (by first | exact Kd.N_base ho0 | exact Kd.R_base ho0)) (Kd.R_base ho1)) (fun _ h_ => h_.1));have n2_:=Aside0.mk (Kd.N_lower (Kd.N_mono (ok':=fun k_ => (w.heap.size ≤ k_) ∧ some k_ ≠ (v343 : Value).ownBlock ∧ some k_ ≠ (.slice Ao10 t331.length co10 : Value).ownBlock ∧ k_ ≠ gb327 ∧ k_ ≠ g330) (Kd.R_N (Kd.R_bound ho0)) (fun k_ hk_ => ⟨(Nat.le_trans (below_size (by repeat (first | (with_reducible first | exact HB.out | apply below_alloc | apply pw_below_drewN | apply below_drew1 | refine below_set ?_ (IsS79.ge HI330.out) | refine below_set ?_ GE327.out) | exact HB.out))) hk_.2.1),hk_.1,(Kd.fresh' (Kd.N_lt (Up.Nup HO333)) k_ hk_.2.1),(Kd.freshB (g:=gb327) (o:=.cells #[.string (⟨#[]⟩ : ByteArray),.int .i64 0,.slice none 0 0,.slice none 0 0] 27 (0,0)) (Up.Kup BK327) k_ hk_.2.1),(IsS79.fresh (by repeat (first | (with_reducible first | exact HI330.out | apply IsS79.alloc | apply IsS79.drewN | apply IsS79.drew | apply IsS79.set_1 | refine IsS79.far ?_ NB330_327.out _) | exact HI330.out)) k_ hk_.2.1)⟩)) (below_size (by repeat (first | (with_reducible first | exact HB.out | apply below_alloc | apply pw_below_drewN | apply below_drew1 | refine below_set ?_ (IsS79.ge HI330.out) | refine below_set ?_ GE327.out) | exact HB.out))));have n3_:=Aside0.mk (Kd.R_lower (Kd.R_newM (M:=fun k_ => (w.heap.size ≤ k_)) ho1 (below_size (by repeat (first | (with_reducible first | exact HB.out | apply below_alloc | apply pw_below_drewN | apply below_drew1 | refine below_set ?_ (IsS79.ge HI330.out) | refine below_set ?_ GE327.out) | exact HB.out))) (fun k_ h_ => h_)) (below_size (by repeat (first | (with_reducible first | exact HB.out | apply below_alloc | apply pw_below_drewN | apply below_drew1 | refine below_set ?_ (IsS79.ge HI330.out) | refine below_set ?_ GE327.out) | exact HB.out))));have n4_:=Aside0.mk (hb);have n5_:=Aside0.mk (hi);clear BK327 HO333 HB HI330;have BK327:=n0_;have HO333:=n1_;have HO341:=n2_;have HO344:=n3_;have HB:=n4_;have HI330:=n5_;clear n0_ n1_ n2_ n3_ n4_ n5_;(try clear hb);(try clear hb2);(try clear hk);(try clear hi);(try clear ho0);(try clear ho1);obtain ⟨Ao13,co13,eo13⟩:=Kd.N_slice HO341.out;subst eo13;obtain ⟨Ao14,co14,eo14⟩:=Kd.R_slice HO344.out;subst eo14) | ((with_reducible refine gate_callee (f:=25) rfl ?_);refine Up.gl (some 18) Tryd.func25 #[.pointer (some ⟨g330,0,none⟩),.agg #[.string t337,.int .i64 t338,.slice Ao13 t339.length co13,.slice Ao14 t342.length co14]] ?_;(with_reducible refine (spec_l91Bad.calls k g330 t328 t345 t337 t338 (fun k_ => ((w.heap.size ≤ k_) ∧ (some k_ ≠ (.slice Ao14 t342.length co14 : Value).ownBlock ∧ (some k_ ≠ (.slice Ao10 t331.length co10 : Value).ownBlock ∧ (k_ ≠ gb327 ∧ k_ ≠ g330))))) _ _ t339 (fun k_ => some k_ = (.slice Ao14 t342.length co14 : Value).ownBlock) _ _ t342 t346 t347 t348 t351 t354 w _ ?side1 ?side2 ?side3 ?side4 A6.out).mono ?_);(case side1 => repeat (first | (with_reducible first | exact HI330.out | apply IsS79.alloc | apply IsS79.drewN | apply IsS79.drew | apply IsS79.set_1 | refine IsS79.far ?_ NB330_327.out _) | exact HI330.out));(case side2 => repeat (first | (with_reducible first | exact HB.out | apply below_alloc | apply pw_below_drewN | apply below_drew1 | refine below_set ?_ (IsS79.ge HI330.out) | refine below_set ?_ GE327.out) | exact HB.out));(case side3 => exact Kd.V_mono (Kd.N_V (HO341.out)) (fun k_ hk_ => ⟨hk_,hk_.2.2.2.2⟩));(case side4 => exact Kd.V_mono (Kd.R_V (Kd.R_tight rfl (IsS79.apart HI330.out (Kd.R_types (Kd.R_apart' (Kd.R_apart' (HO344.out) (Kd.N_typed HO333.out) (by decide)) (Kd.N_typed HO341.out) (by decide)) BK327.out (by decide)) (by decide)))) (fun k_ hk_ => ⟨hk_,((IsS79.apart HI330.out (Kd.R_types (Kd.R_apart' (Kd.R_apart' (HO344.out) (Kd.N_typed HO333.out) (by decide)) (Kd.N_typed HO341.out) (by decide)) BK327.out (by decide)) (by decide)).1 k_ hk_.symm).2⟩));rintro e w15 ⟨v349,v352,rfl,ho0,ho1,hi,hb,hk⟩;refine ⟨_,rfl,?_⟩;have n0_:=Aside0.mk (KeepBut.blk hk (g':=gb327) (o:=.cells #[.string (⟨#[]⟩ : ByteArray),.int .i64 0,.slice none 0 0,.slice none 0 0] 27 (0,0)) (Up.Kup BK327) NB327_330.out (by simp));have n1_:=Aside0.mk (Kd.N_mono (Kd.N_keep (Kd.N_mono (ok:=fun k_ => (((((w.heap.size ≤ k_)) ∧ (k_ ≠ gb327 ∧ k_ ≠ g330)) ∧ some k_ ≠ (.slice Ao13 t339.length co13 : Value).ownBlock) ∧ some k_ ≠ (.slice Ao14 t342.length co14 : Value).ownBlock)) (Up.Nup HO333) (fun k_ hk_ => (⟨hk_,hk_.1.1.2.2⟩ : _ ∧ k_ ≠ g330))) hk (fun _ h => h.2)) (fun _ h => h.1));have n2_:=Aside0.mk (Kd.N_mono (Kd.N_keep (Kd.N_mono (ok:=fun k_ => (((w.heap.size ≤ k_)) ∧ (some k_ ≠ (.slice Ao14 t342.length co14 : Value).ownBlock ∧ (some k_ ≠ (.slice Ao10 t331.length co10 : Value).ownBlock ∧ (k_ ≠ gb327 ∧ k_ ≠ g330))))) (Up.Nup HO341) (fun k_ hk_ => (⟨hk_,hk_.2.2.2.2⟩ : _ ∧ k_ ≠ g330))) hk (fun _ h => h.2)) (fun _ h => h.1));have n3_:=Aside0.mk (Kd.R_mono (Kd.R_keep (IsS79.apart (show IsS79 w _ g330 t328 t345 from by repeat (first | (with_reducible first | exact HI330.out | apply IsS79.alloc | apply IsS79.drewN | apply IsS79.drew | apply IsS79.set_1 | refine IsS79.far ?_ NB330_327.out _) | exact HI330.out)) (Up.Rup HO344) (by decide)) hk (fun _ h => h.2)) (fun _ h => h.1));have n4_:=Aside0.mk (Kd.V_lower (Kd.V_mono (ok':=fun k_ => (w.heap.size ≤ k_) ∧ some k_ ≠ (.slice Ao10 t331.length co10 : Value).ownBlock ∧ k_ ≠ gb327 ∧ k_ ≠ g330) ho0 (fun k_ hk_ => ⟨Or.elim hk_ (fun hs_ => Or.elim hs_ (fun hs_ => hs_.1) (fun hs_ => ((IsS79.apart HI330.out (Kd.R_types (Kd.R_apart' (Kd.R_apart' (HO344.out) (Kd.N_typed HO333.out) (by decide)) (Kd.N_typed HO341.out) (by decide)) BK327.out (by decide)) (by decide)).1 k_ hs_.symm).1.1.1.1.1)) (fun hn_ => (Nat.le_trans (below_size (by repeat (first | (with_reducible first | exact HB.out | apply below_alloc | apply pw_below_drewN | apply below_drew1 | refine below_set ?_ (IsS79.ge HI330.out) | refine below_set ?_ GE327.out) | exact HB.out))) hn_)),Or.elim hk_ (fun hs_ => Or.elim hs_ (fun hs_ => hs_.2.2.1) (fun hs_ => ((IsS79.apart HI330.out (Kd.R_types (Kd.R_apart' (Kd.R_apart' (HO344.out) (Kd.N_typed HO333.out) (by decide)) (Kd.N_typed HO341.out) (by decide)) BK327.out (by decide)) (by decide)).1 k_ hs_.symm).1.1.1.2)) (fun hn_ => (Kd.fresh' (Kd.N_lt (Up.Nup HO333)) k_ hn_)),Or.elim hk_ (fun hs_ => Or.elim hs_ (fun hs_ => hs_.2.2.2.1) (fun hs_ => ((IsS79.apart HI330.out (Kd.R_types (Kd.R_apart' (Kd.R_apart' (HO344.out) (Kd.N_typed HO333.out) (by decide)) (Kd.N_typed HO341.out) (by decide)) BK327.out (by decide)) (by decide)).1 k_ hs_.symm).1.2)) (fun hn_ => (Kd.freshB (g:=gb327) (o:=.cells #[.string (⟨#[]⟩ : ByteArray),.int .i64 0,.slice none 0 0,.slice none 0 0] 27 (0,0)) (Up.Kup BK327) k_ hn_)),Or.elim hk_ (fun hs_ => Or.elim hs_ (fun hs_ => hs_.2.2.2.2) (fun hs_ => ((IsS79.apart HI330.out (Kd.R_types (Kd.R_apart' (Kd.R_apart' (HO344.out) (Kd.N_typed HO333.out) (by decide)) (Kd.N_typed HO341.out) (by decide)) BK327.out (by decide)) (by decide)).1 k_ hs_.symm).2)) (fun hn_ => (IsS79.fresh (by repeat (first | (with_reducible first | exact HI330.out | apply IsS79.alloc | apply IsS79.drewN | apply IsS79.drew | apply IsS79.set_1 | refine IsS79.far ?_ NB330_327.out _) | exact HI330.out)) k_ hn_))⟩)) (below_size (by repeat (first | (with_reducible first | exact HB.out | apply below_alloc | apply pw_below_drewN | apply below_drew1 | refine below_set ?_ (IsS79.ge HI330.out) | refine below_set ?_ GE327.out) | exact HB.out))));have n5_:=Aside0.mk (Kd.V_lower (Kd.V_mono (ok':=fun k_ => (w.heap.size ≤ k_) ∧ some k_ ≠ (.slice Ao10 t331.length co10 : Value).ownBlock ∧ k_ ≠ gb327 ∧ k_ ≠ g330) ho1 (fun k_ hk_ => ⟨Or.elim hk_ (fun hs_ => Or.elim hs_ (fun hs_ => hs_.1) (fun hs_ => ((IsS79.apart HI330.out (Kd.R_types (Kd.R_apart' (Kd.R_apart' (HO344.out) (Kd.N_typed HO333.out) (by decide)) (Kd.N_typed HO341.out) (by decide)) BK327.out (by decide)) (by decide)).1 k_ hs_.symm).1.1.1.1.1)) (fun hn_ => (Nat.le_trans (below_size (by repeat (first | (with_reducible first | exact HB.out | apply below_alloc | apply pw_below_drewN | apply below_drew1 | refine below_set ?_ (IsS79.ge HI330.out) | refine below_set ?_ GE327.out) | exact HB.out))) hn_)),Or.elim hk_ (fun hs_ => Or.elim hs_ (fun hs_ => hs_.2.2.1) (fun hs_ => ((IsS79.apart HI330.out (Kd.R_types (Kd.R_apart' (Kd.R_apart' (HO344.out) (Kd.N_typed HO333.out) (by decide)) (Kd.N_typed HO341.out) (by decide)) BK327.out (by decide)) (by decide)).1 k_ hs_.symm).1.1.1.2)) (fun hn_ => (Kd.fresh' (Kd.N_lt (Up.Nup HO333)) k_ hn_)),Or.elim hk_ (fun hs_ => Or.elim hs_ (fun hs_ => hs_.2.2.2.1) (fun hs_ => ((IsS79.apart HI330.out (Kd.R_types (Kd.R_apart' (Kd.R_apart' (HO344.out) (Kd.N_typed HO333.out) (by decide)) (Kd.N_typed HO341.out) (by decide)) BK327.out (by decide)) (by decide)).1 k_ hs_.symm).1.2)) (fun hn_ => (Kd.freshB (g:=gb327) (o:=.cells #[.string (⟨#[]⟩ : ByteArray),.int .i64 0,.slice none 0 0,.slice none 0 0] 27 (0,0)) (Up.Kup BK327) k_ hn_)),Or.elim hk_ (fun hs_ => Or.elim hs_ (fun hs_ => hs_.2.2.2.2) (fun hs_ => ((IsS79.apart HI330.out (Kd.R_types (Kd.R_apart' (Kd.R_apart' (HO344.out) (Kd.N_typed HO333.out) (by decide)) (Kd.N_typed HO341.out) (by decide)) BK327.out (by decide)) (by decide)).1 k_ hs_.symm).2)) (fun hn_ => (IsS79.fresh (by repeat (first | (with_reducible first | exact HI330.out | apply IsS79.alloc | apply IsS79.drewN | apply IsS79.drew | apply IsS79.set_1 | refine IsS79.far ?_ NB330_327.out _) | exact HI330.out)) k_ hn_))⟩)) (below_size (by repeat (first | (with_reducible first | exact HB.out | apply below_alloc | apply pw_below_drewN | apply below_drew1 | refine below_set ?_ (IsS79.ge HI330.out) | refine below_set ?_ GE327.out) | exact HB.out))));have n6_:=Aside0.mk (hb);have n7_:=Aside0.mk (hi);clear BK327 HO333 HO341 HO344 HB HI330;have BK327:=n0_;have HO333:=n1_;have HO341:=n2_;have HO344:=n3_;have HO350:=n4_;have HO353:=n5_;have HB:=n6_;have HI330:=n7_;clear n0_ n1_ n2_ n3_ n4_ n5_ n6_ n7_;(try clear hb);(try clear hb2);(try clear hk);(try clear hi);(try clear ho0);(try clear ho1)) | ((with_reducible refine gate_dst (N:=6) rfl ?_);refine Up.bx 6 27 #[.string (⟨#[]⟩ : ByteArray),.int .i64 0,.slice none 0 0,.slice none 0 0] ?_;intro gb355 hg w16 hbox hb;have n0_:=Aside0.mk (Kd.N_below (Kd.N_elderB (Up.Nup HO333) gb355 (Nat.le_of_eq hg.symm)) hb);have n1_:=Aside0.mk (Kd.N_below (Kd.N_elderB (Up.Nup HO341) gb355 (Nat.le_of_eq hg.symm)) hb);have n2_:=Up.RB HO344 hb;have n3_:=Aside0.mk (Kd.V_below (Kd.V_elderB (Up.Vup HO350) gb355 (Nat.le_of_eq hg.symm)) hb);have n4_:=Aside0.mk (Kd.V_below (Kd.V_elderB (Up.Vup HO353) gb355 (Nat.le_of_eq hg.symm)) hb);have n5_:=Up.KB BK327 hb;have n6_:=Aside0.mk (IsS79.below (by repeat (first | (with_reducible first | exact HI330.out | apply IsS79.alloc | apply IsS79.drewN | apply IsS79.drew | apply IsS79.set_1 | refine IsS79.far ?_ NB330_327.out _) | exact HI330.out)) hb);have n7_:=Aside0.mk (below_step (by repeat (first | (with_reducible first | exact HB.out | apply below_alloc | apply pw_below_drewN | apply below_drew1 | refine below_set ?_ (IsS79.ge HI330.out) | refine below_set ?_ GE327.out) | exact HB.out)) hb);have n8_:=Aside0.mk (hbox);have n9_:=Aside0.mk ((by rw [hg];exact (below_size (by repeat (first | (with_reducible first | exact HB.out | apply below_alloc | apply pw_below_drewN | apply below_drew1 | refine below_set ?_ (IsS79.ge HI330.out) | refine below_set ?_ GE327.out) | exact HB.out))) : w.heap.size ≤ gb355));have n10_:=Aside0.mk ((by rw [hg];exact (below_size (by repeat (first | (with_reducible first | exact HB.out | apply below_alloc | apply pw_below_drewN | apply below_drew1 | refine below_set ?_ (IsS79.ge HI330.out) | refine below_set ?_ GE327.out) | exact HB.out))) : w.heap.size ≤ gb355));have n11_:=Up.nl hg BK327;have n12_:=Up.ng hg BK327;have n13_:=Aside0.mk ((by rw [hg];exact Nat.ne_of_lt (IsS79.lt (show IsS79 w _ g330 t328 t354 from by repeat (first | (with_reducible first | exact HI330.out | apply IsS79.alloc | apply IsS79.drewN | apply IsS79.drew | apply IsS79.set_1 | refine IsS79.far ?_ NB330_327.out _) | exact HI330.out))) : g330 ≠ gb355));have n14_:=Aside0.mk ((by rw [hg];exact Nat.ne_of_gt (IsS79.lt (show IsS79 w _ g330 t328 t354 from by repeat (first | (with_reducible first | exact HI330.out | apply IsS79.alloc | apply IsS79.drewN | apply IsS79.drew | apply IsS79.set_1 | refine IsS79.far ?_ NB330_327.out _) | exact HI330.out))) : gb355 ≠ g330));clear HO333 HO341 HO344 HO350 HO353 BK327 HI330 HB;have HO333:=n0_;have HO341:=n1_;have HO344:=n2_;have HO350:=n3_;have HO353:=n4_;have BK327:=n5_;have HI330:=n6_;have HB:=n7_;have BK355:=n8_;have GW355:=n9_;have GE355:=n10_;have NB327_355:=n11_;have NB355_327:=n12_;have NB330_355:=n13_;have NB355_330:=n14_;clear n0_ n1_ n2_ n3_ n4_ n5_ n6_ n7_ n8_ n9_ n10_ n11_ n12_ n13_ n14_ hb hbox hg;have hnb17:=NB355_327.out;have hnc17:=NB327_355.out;have hnb18:=NB355_330.out;have hnc18:=NB330_355.out;have hcz19_0:=Up.c0 BK355;have hcz19_1:=Up.c1 BK355;have hcz19_2:=Up.c2 BK355;have hcz19_3:=Up.c3 BK355;have hfz19_0:=blk_frozen BK355.out 0;have hfz19_1:=blk_frozen BK355.out 1;have hfz19_2:=blk_frozen BK355.out 2;have hfz19_3:=blk_frozen BK355.out 3;obtain ⟨Ao20,co20,eo20⟩:=Kd.V_slice HO350.out;subst eo20;obtain ⟨Ao21,co21,eo21⟩:=Kd.V_slice HO353.out;subst eo21))
 have n0_ : Aside0 (Kd.N (Kd.slice 81 k81) 66 ((((w16.setCell ⟨gb355,0,none⟩ (.string t346)).setCell ⟨gb355,1,none⟩ (.int .i64 t347)).setCell ⟨gb355,2,none⟩ (.slice Ao20 t348.length co20)).setCell ⟨gb355,3,none⟩ (.slice Ao21 t351.length co21)) w.heap.size (fun k_ => (w.heap.size ≤ k_) ∧ some k_ ≠ (.slice Ao13 t339.length co13 : Value).ownBlock ∧ some k_ ≠ (.slice Ao14 t342.length co14 : Value).ownBlock ∧ k_ ≠ gb327 ∧ k_ ≠ g330 ∧ k_ ≠ gb355) (.slice Ao10 t331.length co10) t331):=⟨by (with_reducible repeat (first | apply Kd.N_alloc | apply Kd.N_drewN | apply Kd.N_drew));exact Kd.N_mono (Kd.N_far (p:=⟨gb355,3,none⟩) (Kd.N_far (p:=⟨gb355,2,none⟩) (Kd.N_far (p:=⟨gb355,1,none⟩) (Kd.N_far (p:=⟨gb355,0,none⟩) (Kd.N_mono HO333.out (fun k_ hk => (⟨hk,hk.2⟩ : _ ∧ k_ ≠ gb355))) (fun _ hk => hk.2) (.string t346)) (fun _ hk => hk.2) (.int .i64 t347)) (fun _ hk => hk.2) (.slice Ao20 t348.length co20)) (fun _ hk => hk.2) (.slice Ao21 t351.length co21)) (fun _ hk => ⟨hk.1.1.1.1.1,⟨hk.1.1.1.2,⟨hk.1.1.2,⟨hk.1.1.1.1.2.1,⟨hk.1.1.1.1.2.2,hk.1.2⟩⟩⟩⟩⟩)⟩
 have n1_ : Aside0 (Kd.N k27 27 ((((w16.setCell ⟨gb355,0,none⟩ (.string t346)).setCell ⟨gb355,1,none⟩ (.int .i64 t347)).setCell ⟨gb355,2,none⟩ (.slice Ao20 t348.length co20)).setCell ⟨gb355,3,none⟩ (.slice Ao21 t351.length co21)) w.heap.size (fun k_ => (w.heap.size ≤ k_) ∧ some k_ ≠ (.slice Ao10 t331.length co10 : Value).ownBlock ∧ some k_ ≠ (.slice Ao14 t342.length co14 : Value).ownBlock ∧ k_ ≠ gb327 ∧ k_ ≠ g330 ∧ k_ ≠ gb355) (.slice Ao13 t339.length co13) t339):=⟨by (with_reducible repeat (first | apply Kd.N_alloc | apply Kd.N_drewN | apply Kd.N_drew));exact Kd.N_mono (Kd.N_far (p:=⟨gb355,3,none⟩) (Kd.N_far (p:=⟨gb355,2,none⟩) (Kd.N_far (p:=⟨gb355,1,none⟩) (Kd.N_far (p:=⟨gb355,0,none⟩) (Kd.N_mono HO341.out (fun k_ hk => (⟨hk,hk.2⟩ : _ ∧ k_ ≠ gb355))) (fun _ hk => hk.2) (.string t346)) (fun _ hk => hk.2) (.int .i64 t347)) (fun _ hk => hk.2) (.slice Ao20 t348.length co20)) (fun _ hk => hk.2) (.slice Ao21 t351.length co21)) (fun _ hk => ⟨hk.1.1.1,⟨hk.1.1.2.2.1,⟨hk.1.1.2.1,⟨hk.1.1.2.2.2.1,⟨hk.1.1.2.2.2.2,hk.1.2⟩⟩⟩⟩⟩)⟩
 have n2_ : Aside0 (Kd.R (Kd.int .i64) 3 ((((w16.setCell ⟨gb355,0,none⟩ (.string t346)).setCell ⟨gb355,1,none⟩ (.int .i64 t347)).setCell ⟨gb355,2,none⟩ (.slice Ao20 t348.length co20)).setCell ⟨gb355,3,none⟩ (.slice Ao21 t351.length co21)) w.heap.size (fun k_ => (w.heap.size ≤ k_)) (.slice Ao14 t342.length co14) t342):=⟨by (with_reducible repeat (first | apply Kd.R_alloc | apply Kd.R_drewN | apply Kd.R_drew));exact Kd.R_mono (Kd.R_far (p:=⟨gb355,3,none⟩) (Kd.R_far (p:=⟨gb355,2,none⟩) (Kd.R_far (p:=⟨gb355,1,none⟩) (Kd.R_far (p:=⟨gb355,0,none⟩) (Kd.R_types HO344.out BK355.out (by decide)) (fun _ hk => hk.2) (.string t346)) (fun _ hk => hk.2) (.int .i64 t347)) (fun _ hk => hk.2) (.slice Ao20 t348.length co20)) (fun _ hk => hk.2) (.slice Ao21 t351.length co21)) (fun _ hk => hk.1.1)⟩
 have n3_ : Aside0 (Kd.V k27 27 ((((w16.setCell ⟨gb355,0,none⟩ (.string t346)).setCell ⟨gb355,1,none⟩ (.int .i64 t347)).setCell ⟨gb355,2,none⟩ (.slice Ao20 t348.length co20)).setCell ⟨gb355,3,none⟩ (.slice Ao21 t351.length co21)) w.heap.size (fun k_ => (w.heap.size ≤ k_) ∧ some k_ ≠ (.slice Ao10 t331.length co10 : Value).ownBlock ∧ k_ ≠ gb327 ∧ k_ ≠ g330 ∧ k_ ≠ gb355) (.slice Ao20 t348.length co20) t348):=⟨by (with_reducible repeat (first | apply Kd.V_alloc | apply Kd.V_drewN | apply Kd.V_drew));exact Kd.V_mono (Kd.V_far (p:=⟨gb355,3,none⟩) (Kd.V_far (p:=⟨gb355,2,none⟩) (Kd.V_far (p:=⟨gb355,1,none⟩) (Kd.V_far (p:=⟨gb355,0,none⟩) (Kd.V_mono HO350.out (fun k_ hk => (⟨hk,hk.2⟩ : _ ∧ k_ ≠ gb355))) (fun _ hk => hk.2) (.string t346)) (fun _ hk => hk.2) (.int .i64 t347)) (fun _ hk => hk.2) (.slice Ao20 t348.length co20)) (fun _ hk => hk.2) (.slice Ao21 t351.length co21)) (fun _ hk => ⟨hk.1.1.1,⟨hk.1.1.2.1,⟨hk.1.1.2.2.1,⟨hk.1.1.2.2.2,hk.1.2⟩⟩⟩⟩)⟩
 have n4_ : Aside0 (Kd.V (Kd.int .i64) 3 ((((w16.setCell ⟨gb355,0,none⟩ (.string t346)).setCell ⟨gb355,1,none⟩ (.int .i64 t347)).setCell ⟨gb355,2,none⟩ (.slice Ao20 t348.length co20)).setCell ⟨gb355,3,none⟩ (.slice Ao21 t351.length co21)) w.heap.size (fun k_ => (w.heap.size ≤ k_) ∧ some k_ ≠ (.slice Ao10 t331.length co10 : Value).ownBlock ∧ k_ ≠ gb327 ∧ k_ ≠ g330 ∧ k_ ≠ gb355) (.slice Ao21 t351.length co21) t351):=⟨by (with_reducible repeat (first | apply Kd.V_alloc | apply Kd.V_drewN | apply Kd.V_drew));exact Kd.V_mono (Kd.V_far (p:=⟨gb355,3,none⟩) (Kd.V_far (p:=⟨gb355,2,none⟩) (Kd.V_far (p:=⟨gb355,1,none⟩) (Kd.V_far (p:=⟨gb355,0,none⟩) (Kd.V_mono HO353.out (fun k_ hk => (⟨hk,hk.2⟩ : _ ∧ k_ ≠ gb355))) (fun _ hk => hk.2) (.string t346)) (fun _ hk => hk.2) (.int .i64 t347)) (fun _ hk => hk.2) (.slice Ao20 t348.length co20)) (fun _ hk => hk.2) (.slice Ao21 t351.length co21)) (fun _ hk => ⟨hk.1.1.1,⟨hk.1.1.2.1,⟨hk.1.1.2.2.1,⟨hk.1.1.2.2.2,hk.1.2⟩⟩⟩⟩)⟩
 have n5_ : Aside0 (((((w16.setCell ⟨gb355,0,none⟩ (.string t346)).setCell ⟨gb355,1,none⟩ (.int .i64 t347)).setCell ⟨gb355,2,none⟩ (.slice Ao20 t348.length co20)).setCell ⟨gb355,3,none⟩ (.slice Ao21 t351.length co21)).heap[gb327]? = some (.cells #[.string (⟨#[]⟩ : ByteArray),.int .i64 0,.slice none 0 0,.slice none 0 0] 27 (0,0))):=⟨by (with_reducible repeat (first | refine blk_drewN ?_ _ | refine blk_drew ?_ | refine blk_alloc ?_ _));refine blk_far ?_ NB327_355.out _;(with_reducible repeat (first | refine blk_drewN ?_ _ | refine blk_drew ?_ | refine blk_alloc ?_ _));refine blk_far ?_ NB327_355.out _;(with_reducible repeat (first | refine blk_drewN ?_ _ | refine blk_drew ?_ | refine blk_alloc ?_ _));refine blk_far ?_ NB327_355.out _;(with_reducible repeat (first | refine blk_drewN ?_ _ | refine blk_drew ?_ | refine blk_alloc ?_ _));refine blk_far ?_ NB327_355.out _;(with_reducible repeat (first | refine blk_drewN ?_ _ | refine blk_drew ?_ | refine blk_alloc ?_ _));exact BK327.out⟩
 have n6_ : Aside0 (((((w16.setCell ⟨gb355,0,none⟩ (.string t346)).setCell ⟨gb355,1,none⟩ (.int .i64 t347)).setCell ⟨gb355,2,none⟩ (.slice Ao20 t348.length co20)).setCell ⟨gb355,3,none⟩ (.slice Ao21 t351.length co21)).heap[gb355]? = some (.cells #[.string t346,.int .i64 t347,.slice Ao20 t348.length co20,.slice Ao21 t351.length co21] 27 (0,0))):=⟨by (with_reducible repeat (first | refine blk_drewN ?_ _ | refine blk_drew ?_ | refine blk_alloc ?_ _));refine blk_put (cs:=#[.string t346,.int .i64 t347,.slice Ao20 t348.length co20,.slice none 0 0]) ?_ 3 _ rfl;(with_reducible repeat (first | refine blk_drewN ?_ _ | refine blk_drew ?_ | refine blk_alloc ?_ _));refine blk_put (cs:=#[.string t346,.int .i64 t347,.slice none 0 0,.slice none 0 0]) ?_ 2 _ rfl;(with_reducible repeat (first | refine blk_drewN ?_ _ | refine blk_drew ?_ | refine blk_alloc ?_ _));refine blk_put (cs:=#[.string t346,.int .i64 0,.slice none 0 0,.slice none 0 0]) ?_ 1 _ rfl;(with_reducible repeat (first | refine blk_drewN ?_ _ | refine blk_drew ?_ | refine blk_alloc ?_ _));refine blk_put (cs:=#[.string (⟨#[]⟩ : ByteArray),.int .i64 0,.slice none 0 0,.slice none 0 0]) ?_ 0 _ rfl;(with_reducible repeat (first | refine blk_drewN ?_ _ | refine blk_drew ?_ | refine blk_alloc ?_ _));exact BK355.out⟩
 have n7_ : Aside0 (IsS79 w ((((w16.setCell ⟨gb355,0,none⟩ (.string t346)).setCell ⟨gb355,1,none⟩ (.int .i64 t347)).setCell ⟨gb355,2,none⟩ (.slice Ao20 t348.length co20)).setCell ⟨gb355,3,none⟩ (.slice Ao21 t351.length co21)) g330 t328 t354):=⟨by repeat (first | (with_reducible first | exact HI330.out | apply IsS79.alloc | apply IsS79.drewN | apply IsS79.drew | apply IsS79.set_1 | refine IsS79.far ?_ NB330_327.out _ | refine IsS79.far ?_ NB330_355.out _) | exact HI330.out)⟩
 have n8_ : Aside0 (Below w.heap.size w ((((w16.setCell ⟨gb355,0,none⟩ (.string t346)).setCell ⟨gb355,1,none⟩ (.int .i64 t347)).setCell ⟨gb355,2,none⟩ (.slice Ao20 t348.length co20)).setCell ⟨gb355,3,none⟩ (.slice Ao21 t351.length co21))):=⟨by repeat (first | (with_reducible first | exact HB.out | apply below_alloc | apply pw_below_drewN | apply below_drew1 | refine below_set ?_ (IsS79.ge HI330.out) | refine below_set ?_ GE327.out | refine below_set ?_ GE355.out) | exact HB.out)⟩
 (try clear HO333)
 (try clear HO341)
 (try clear HO344)
 (try clear HO350)
 (try clear HO353)
 (try clear BK327)
 (try clear BK355)
 (try clear HI330)
 (try clear HB)
 generalize ((((w16.setCell ⟨gb355,0,none⟩ (.string t346)).setCell ⟨gb355,1,none⟩ (.int .i64 t347)).setCell ⟨gb355,2,none⟩ (.slice Ao20 t348.length co20)).setCell ⟨gb355,3,none⟩ (.slice Ao21 t351.length co21)) = w22 at n0_ n1_ n2_ n3_ n4_ n5_ n6_ n7_ n8_ ⊢
 have HO333:=n0_
 have HO341:=n1_
 have HO344:=n2_
 have HO350:=n3_
 have HO353:=n4_
 have BK327:=n5_
 have BK355:=n6_
 have HI330:=n7_
 have HB:=n8_
 clear n0_ n1_ n2_ n3_ n4_ n5_ n6_ n7_ n8_
 have n0_:=Aside0.mk (Kd.N_drew HO333.out)
 have n1_:=Aside0.mk (Kd.N_drew HO341.out)
 have n2_:=Aside0.mk (Kd.R_drew HO344.out)
 have n3_:=Aside0.mk (Kd.V_drew HO350.out)
 have n4_:=Aside0.mk (Kd.V_drew HO353.out)
 have n5_:=Aside0.mk (blk_drew BK327.out)
 have n6_:=Aside0.mk (blk_drew BK355.out)
 have n7_:=Aside0.mk (IsS79.drew HI330.out)
 have n8_:=Aside0.mk (below_drew1 HB.out)
 clear HO333
 clear HO341
 clear HO344
 clear HO350
 clear HO353
 clear BK327
 clear BK355
 clear HI330
 clear HB
 have HO333:=n0_
 have HO341:=n1_
 have HO344:=n2_
 have HO350:=n3_
 have HO353:=n4_
 have BK327:=n5_
 have BK355:=n6_
 have HI330:=n7_
 have HB:=n8_
 clear n0_ n1_ n2_ n3_ n4_ n5_ n6_ n7_ n8_
 refine start_ (n:=4) (S:=fun w' => w'.cell? ⟨gb355,0,none⟩ = some (.string t346) ∧ w'.cell? ⟨gb355,1,none⟩ = some (.int .i64 t347) ∧ w'.cell? ⟨gb355,2,none⟩ = some (.slice Ao20 t348.length co20) ∧ w'.cell? ⟨gb355,3,none⟩ = some (.slice Ao21 t351.length co21)) (ds:=[]) #[false,false,false,false] (by kernel_rfl) rfl rfl ⟨Up.c0 BK355,Up.c1 BK355,Up.c2 BK355,Up.c3 BK355⟩ (fun hHeld => ?_)
 generalize w22.drew = w23 at HO333 HO341 HO344 HO350 HO353 BK327 BK355 HI330 HB hHeld ⊢
 refine Up.pn 0 (some 19) ?_
 refine Up.pn 2 (some 2) ?_
 refine take_ (i:=1) (N:=some 20) (v:=?_) (a':=?_) #[true,true,true,false] rfl rfl (by kernel_rfl) (fun _ _ _ h => h) (Or.inl ⟨by rfl,?_⟩) hHeld ?_ ?_
 rotate_left
 ·rintro w' ⟨s0,s1,s2,s3⟩
  go_simp
  with_reducible rfl
 rotate_left
 ·simp only [Act.put,List.setIfInBounds_toArray,List.set_cons_zero,List.set_cons_succ,i64_w,i32_w]
  rfl
 refine one_ (i:=3) (N:=none) #[true,true,true,true] rfl rfl (by kernel_rfl) (by decide) (fun K hK => ?_)
 have hs24:=Up.c0 BK327
 have hfs24:=blk_frozen BK327.out 0
 have hns24_1:=NB355_327.out
 have hms24_1:=NB327_355.out
 have hs25:=Up.c1 BK327
 have hfs25:=blk_frozen BK327.out 1
 have hns25_1:=NB355_327.out
 have hms25_1:=NB327_355.out
 have hs26:=Up.c2 BK327
 have hfs26:=blk_frozen BK327.out 2
 have hns26_1:=NB355_327.out
 have hms26_1:=NB327_355.out
 have hs27:=Up.c3 BK327
 have hfs27:=blk_frozen BK327.out 3
 have hns27_1:=NB355_327.out
 have hms27_1:=NB327_355.out
 refine skip_ (w1:=?_) (by rfl) rfl ?_ ?_
 rotate_left
 ·go_simp
  rfl
 refine hK.out _ _ ⟨((cell_far (p:=⟨gb327,_,none⟩) NB355_327.out _).trans (((cell_far (p:=⟨gb327,_,none⟩) NB355_327.out _).trans (((cell_far (p:=⟨gb327,_,none⟩) NB355_327.out _).trans (((cell_far (p:=⟨gb327,_,none⟩) NB355_327.out _).trans (hHeld.1)))))))),((cell_far (p:=⟨gb327,_,none⟩) NB355_327.out _).trans (((cell_far (p:=⟨gb327,_,none⟩) NB355_327.out _).trans (((cell_far (p:=⟨gb327,_,none⟩) NB355_327.out _).trans (((cell_far (p:=⟨gb327,_,none⟩) NB355_327.out _).trans (hHeld.2.1)))))))),((cell_far (p:=⟨gb327,_,none⟩) NB355_327.out _).trans (((cell_far (p:=⟨gb327,_,none⟩) NB355_327.out _).trans (((cell_far (p:=⟨gb327,_,none⟩) NB355_327.out _).trans (((cell_far (p:=⟨gb327,_,none⟩) NB355_327.out _).trans (hHeld.2.2.1)))))))),((cell_far (p:=⟨gb327,_,none⟩) NB355_327.out _).trans (((cell_far (p:=⟨gb327,_,none⟩) NB355_327.out _).trans (((cell_far (p:=⟨gb327,_,none⟩) NB355_327.out _).trans (((cell_far (p:=⟨gb327,_,none⟩) NB355_327.out _).trans (hHeld.2.2.2))))))))⟩ (fun hHeld => ?_)
 clear hK K
 refine done_ (by kernel_rfl) ?_
 try go_wp2
 refine bodyPost_ret (results_tc rfl _ _ gb327 27 #[.string t346,.int .i64 t347,.slice Ao20 t348.length co20,.slice Ao21 t351.length co21] (0,0) _ rfl (Up.Kx BK327) Tryd.underlying27 rfl (by kernel_rfl)) rfl ?_
 exact ⟨_,_,_,by first | rfl | (simp [errW_none,errW_some] <;> rfl) | (simp [*,errW_none,errW_some] <;> rfl),by (with_reducible repeat (first | apply Kd.N_alloc | apply Kd.N_drewN | apply Kd.N_drew));exact Kd.N_mono (Kd.N_far (p:=⟨gb327,3,none⟩) (Kd.N_far (p:=⟨gb327,2,none⟩) (Kd.N_far (p:=⟨gb327,1,none⟩) (Kd.N_far (p:=⟨gb327,0,none⟩) (Kd.N_mono HO333.out (fun k_ hk => (⟨hk,hk.2.2.2.1⟩ : _ ∧ k_ ≠ gb327))) (fun _ hk => hk.2) (.string t346)) (fun _ hk => hk.2) (.int .i64 t347)) (fun _ hk => hk.2) (.slice Ao20 t348.length co20)) (fun _ hk => hk.2) (.slice Ao21 t351.length co21)) (fun _ hk => hk.1.1),by (with_reducible repeat (first | apply Kd.V_alloc | apply Kd.V_drewN | apply Kd.V_drew));exact Kd.V_mono (Kd.V_far (p:=⟨gb327,3,none⟩) (Kd.V_far (p:=⟨gb327,2,none⟩) (Kd.V_far (p:=⟨gb327,1,none⟩) (Kd.V_far (p:=⟨gb327,0,none⟩) (Kd.V_mono HO350.out (fun k_ hk => (⟨hk,hk.2.2.1⟩ : _ ∧ k_ ≠ gb327))) (fun _ hk => hk.2) (.string t346)) (fun _ hk => hk.2) (.int .i64 t347)) (fun _ hk => hk.2) (.slice Ao20 t348.length co20)) (fun _ hk => hk.2) (.slice Ao21 t351.length co21)) (fun _ hk => ⟨hk.1.1,hk.1.2.1⟩),by (with_reducible repeat (first | apply Kd.V_alloc | apply Kd.V_drewN | apply Kd.V_drew));exact Kd.V_mono (Kd.V_far (p:=⟨gb327,3,none⟩) (Kd.V_far (p:=⟨gb327,2,none⟩) (Kd.V_far (p:=⟨gb327,1,none⟩) (Kd.V_far (p:=⟨gb327,0,none⟩) (Kd.V_mono HO353.out (fun k_ hk => (⟨hk,hk.2.2.1⟩ : _ ∧ k_ ≠ gb327))) (fun _ hk => hk.2) (.string t346)) (fun _ hk => hk.2) (.int .i64 t347)) (fun _ hk => hk.2) (.slice Ao20 t348.length co20)) (fun _ hk => hk.2) (.slice Ao21 t351.length co21)) (fun _ hk => ⟨hk.1.1,hk.1.2.1⟩),by repeat (first | (with_reducible first | exact HB.out | apply below_alloc | apply pw_below_drewN | apply below_drew1 | refine below_set ?_ (IsS79.ge HI330.out) | refine below_set ?_ GE327.out | refine below_set ?_ GE355.out) | exact HB.out)⟩

/-! ### impl_kindAt: function 71 -/
def impl_kindAt.f (a0 : ByteArray) : Option (Int × Int × Bool):=if (a0.size : Int) = 3 then (if 0 < (a0.size : Int) then (if (bt a0 0) = 83 then (if 1 < (a0.size : Int) then (if (bt a0 1) < 48 then (some (0,0,false)) else (if (bt a0 1) > 57 then (some (0,0,false)) else (if 2 < (a0.size : Int) then (if (bt a0 2) < 48 then (some (0,0,false)) else (if (bt a0 2) > 57 then (some (0,0,false)) else (some (((bt a0 1) - 48) % 256,((bt a0 2) - 48) % 256,true)))) else (none)))) else (none)) else (some (0,0,false))) else (none)) else (some (0,0,false))
set_option maxHeartbeats 8000000 in
set_option maxRecDepth 100000 in
theorem impl_kindAt.calls (a0 : ByteArray) (r1 : Int) (r2 : Int) (r3 : Bool) (w : World) (h : impl_kindAt.f a0 = some (r1,r2,r3)) :
  Calls Tryd.prog 71 #[.string a0] w fun e w' => e = .returned (.tuple #[.int .i64 r1,.int .i64 r2,.bool r3]) ∧ Drawn0 w w':=by
 have H : (if (a0.size : Int) = 3 then (if 0 < (a0.size : Int) then (if (bt a0 0) = 83 then (if 1 < (a0.size : Int) then (if (bt a0 1) < 48 then (some (0,0,false)) else (if (bt a0 1) > 57 then (some (0,0,false)) else (if 2 < (a0.size : Int) then (if (bt a0 2) < 48 then (some (0,0,false)) else (if (bt a0 2) > 57 then (some (0,0,false)) else (some (((bt a0 1) - 48) % 256,((bt a0 2) - 48) % 256,true)))) else (none)))) else (none)) else (some (0,0,false))) else (none)) else (some (0,0,false))) = some (r1,r2,r3):=h
 clear h
 by_cases c2 : (a0.size : Int) = 3
 ·rw [if_pos c2] at H
  have c2b0 : ((a0.size : Int) == 3) = true:=beq_iff_eq.mpr c2
  have c2b1 : ((a0.size : Int) != 3) = false:=bne_eq_false_iff_eq.mpr c2
  clear c2
  by_cases c3 : 0 < (a0.size : Int)
  ·rw [if_pos c3] at H
   have c3b0 : decide (0 < (a0.size : Int)) = true:=decide_eq_true c3
   have c3b1 : decide (0 < a0.size) = true:=decide_eq_true (by omega)
   clear c3
   by_cases c5 : (bt a0 0) = 83
   ·rw [if_pos c5] at H
    have c5b0 : ((bt a0 0) == 83) = true:=beq_iff_eq.mpr c5
    have c5b1 : ((bt a0 0) != 83) = false:=bne_eq_false_iff_eq.mpr c5
    clear c5
    by_cases c6 : 1 < (a0.size : Int)
    ·rw [if_pos c6] at H
     have c6b0 : decide (1 < (a0.size : Int)) = true:=decide_eq_true c6
     have c6b1 : decide (1 < a0.size) = true:=decide_eq_true (by omega)
     clear c6
     by_cases c8 : (bt a0 1) < 48
     ·rw [if_pos c8] at H
      have c8b0 : decide ((bt a0 1) < 48) = true:=decide_eq_true c8
      clear c8
      simp only [Option.some.injEq,Prod.mk.injEq] at H
      obtain ⟨rfl,rfl,rfl⟩:=H
      have p4 : 0 ≤ (0 : Int):=(by omega)
      have q4 : 0 < a0.size:=(by have : (0 : Int) < (a0.size : Int):=Up.od;omega)
      have hx4 : ∀ h : 0 < a0.size,((a0[0]'h).toNat : Int) = bt a0 0:=bt_at a0 0
      clear p4
      have qi4 : (0 < (a0.size : Int)) = True:=eq_true (Up.od)
      replace q4:=eq_true q4
      have p7 : 0 ≤ (1 : Int):=(by omega)
      have q7 : 1 < a0.size:=(by have : (1 : Int) < (a0.size : Int):=Up.od;omega)
      have hx7 : ∀ h : 1 < a0.size,((a0[1]'h).toNat : Int) = bt a0 1:=bt_at a0 1
      clear p7
      have qi7 : (1 < (a0.size : Int)) = True:=eq_true (Up.od)
      replace q7:=eq_true q7
      go_enter Tryd.func71,Tryd.ntmps71
      go_wp2
      repeat (go_quiet (fail);try go_wp2)
      go_ret3
      exact Up.e2
     ·rw [if_neg c8] at H
      have c8b0 : decide ((bt a0 1) < 48) = false:=decide_eq_false c8
      clear c8
      by_cases c10 : (bt a0 1) > 57
      ·rw [if_pos c10] at H
       have c10b0 : decide (57 < (bt a0 1)) = true:=decide_eq_true c10
       clear c10
       simp only [Option.some.injEq,Prod.mk.injEq] at H
       obtain ⟨rfl,rfl,rfl⟩:=H
       have p4 : 0 ≤ (0 : Int):=(by omega)
       have q4 : 0 < a0.size:=(by have : (0 : Int) < (a0.size : Int):=Up.od;omega)
       have hx4 : ∀ h : 0 < a0.size,((a0[0]'h).toNat : Int) = bt a0 0:=bt_at a0 0
       clear p4
       have qi4 : (0 < (a0.size : Int)) = True:=eq_true (Up.od)
       replace q4:=eq_true q4
       have p7 : 0 ≤ (1 : Int):=(by omega)
       have q7 : 1 < a0.size:=(by have : (1 : Int) < (a0.size : Int):=Up.od;omega)
       have hx7 : ∀ h : 1 < a0.size,((a0[1]'h).toNat : Int) = bt a0 1:=bt_at a0 1
       clear p7
       have qi7 : (1 < (a0.size : Int)) = True:=eq_true (Up.od)
       replace q7:=eq_true q7
       have p9 : 0 ≤ (1 : Int):=(by omega)
       have q9 : 1 < a0.size:=(by have : (1 : Int) < (a0.size : Int):=Up.od;omega)
       have hx9 : ∀ h : 1 < a0.size,((a0[1]'h).toNat : Int) = bt a0 1:=bt_at a0 1
       clear p9
       have qi9 : (1 < (a0.size : Int)) = True:=eq_true (Up.od)
       replace q9:=eq_true q9
       go_enter Tryd.func71,Tryd.ntmps71
       go_wp2
       repeat (go_quiet (fail);try go_wp2)
       go_ret3
       exact Up.e2
      ·rw [if_neg c10] at H
       have c10b0 : decide (57 < (bt a0 1)) = false:=decide_eq_false c10
       clear c10
       by_cases c11 : 2 < (a0.size : Int)
       ·rw [if_pos c11] at H
        have c11b0 : decide (2 < (a0.size : Int)) = true:=decide_eq_true c11
        have c11b1 : decide (2 < a0.size) = true:=decide_eq_true (by omega)
        clear c11
        by_cases c13 : (bt a0 2) < 48
        ·rw [if_pos c13] at H
         have c13b0 : decide ((bt a0 2) < 48) = true:=decide_eq_true c13
         clear c13
         simp only [Option.some.injEq,Prod.mk.injEq] at H
         obtain ⟨rfl,rfl,rfl⟩:=H
         have p4 : 0 ≤ (0 : Int):=(by omega)
         have q4 : 0 < a0.size:=(by have : (0 : Int) < (a0.size : Int):=Up.od;omega)
         have hx4 : ∀ h : 0 < a0.size,((a0[0]'h).toNat : Int) = bt a0 0:=bt_at a0 0
         clear p4
         have qi4 : (0 < (a0.size : Int)) = True:=eq_true (Up.od)
         replace q4:=eq_true q4
         have p7 : 0 ≤ (1 : Int):=(by omega)
         have q7 : 1 < a0.size:=(by have : (1 : Int) < (a0.size : Int):=Up.od;omega)
         have hx7 : ∀ h : 1 < a0.size,((a0[1]'h).toNat : Int) = bt a0 1:=bt_at a0 1
         clear p7
         have qi7 : (1 < (a0.size : Int)) = True:=eq_true (Up.od)
         replace q7:=eq_true q7
         have p9 : 0 ≤ (1 : Int):=(by omega)
         have q9 : 1 < a0.size:=(by have : (1 : Int) < (a0.size : Int):=Up.od;omega)
         have hx9 : ∀ h : 1 < a0.size,((a0[1]'h).toNat : Int) = bt a0 1:=bt_at a0 1
         clear p9
         have qi9 : (1 < (a0.size : Int)) = True:=eq_true (Up.od)
         replace q9:=eq_true q9
         have p12 : 0 ≤ (2 : Int):=(by omega)
         have q12 : 2 < a0.size:=(by have : (2 : Int) < (a0.size : Int):=Up.od;omega)
         have hx12 : ∀ h : 2 < a0.size,((a0[2]'h).toNat : Int) = bt a0 2:=bt_at a0 2
         clear p12
         have qi12 : (2 < (a0.size : Int)) = True:=eq_true (Up.od)
         replace q12:=eq_true q12
         go_enter Tryd.func71,Tryd.ntmps71
         go_wp2
         repeat (go_quiet (fail);try go_wp2)
         go_ret3
         exact Up.e2
        ·rw [if_neg c13] at H
         have c13b0 : decide ((bt a0 2) < 48) = false:=decide_eq_false c13
         clear c13
         by_cases c15 : (bt a0 2) > 57
         ·rw [if_pos c15] at H
          have c15b0 : decide (57 < (bt a0 2)) = true:=decide_eq_true c15
          clear c15
          simp only [Option.some.injEq,Prod.mk.injEq] at H
          obtain ⟨rfl,rfl,rfl⟩:=H
          have p4 : 0 ≤ (0 : Int):=(by omega)
          have q4 : 0 < a0.size:=(by have : (0 : Int) < (a0.size : Int):=Up.od;omega)
          have hx4 : ∀ h : 0 < a0.size,((a0[0]'h).toNat : Int) = bt a0 0:=bt_at a0 0
          clear p4
          have qi4 : (0 < (a0.size : Int)) = True:=eq_true (Up.od)
          replace q4:=eq_true q4
          have p7 : 0 ≤ (1 : Int):=(by omega)
          have q7 : 1 < a0.size:=(by have : (1 : Int) < (a0.size : Int):=Up.od;omega)
          have hx7 : ∀ h : 1 < a0.size,((a0[1]'h).toNat : Int) = bt a0 1:=bt_at a0 1
          clear p7
          have qi7 : (1 < (a0.size : Int)) = True:=eq_true (Up.od)
          replace q7:=eq_true q7
          have p9 : 0 ≤ (1 : Int):=(by omega)
          have q9 : 1 < a0.size:=(by have : (1 : Int) < (a0.size : Int):=Up.od;omega)
          have hx9 : ∀ h : 1 < a0.size,((a0[1]'h).toNat : Int) = bt a0 1:=bt_at a0 1
          clear p9
          have qi9 : (1 < (a0.size : Int)) = True:=eq_true (Up.od)
          replace q9:=eq_true q9
          have p12 : 0 ≤ (2 : Int):=(by omega)
          have q12 : 2 < a0.size:=(by have : (2 : Int) < (a0.size : Int):=Up.od;omega)
          have hx12 : ∀ h : 2 < a0.size,((a0[2]'h).toNat : Int) = bt a0 2:=bt_at a0 2
          clear p12
          have qi12 : (2 < (a0.size : Int)) = True:=eq_true (Up.od)
          replace q12:=eq_true q12
          have p14 : 0 ≤ (2 : Int):=(by omega)
          have q14 : 2 < a0.size:=(by have : (2 : Int) < (a0.size : Int):=Up.od;omega)
          have hx14 : ∀ h : 2 < a0.size,((a0[2]'h).toNat : Int) = bt a0 2:=bt_at a0 2
          clear p14
          have qi14 : (2 < (a0.size : Int)) = True:=eq_true (Up.od)
          replace q14:=eq_true q14
          go_enter Tryd.func71,Tryd.ntmps71
          go_wp2
          repeat (go_quiet (fail);try go_wp2)
          go_ret3
          exact Up.e2
         ·rw [if_neg c15] at H
          have c15b0 : decide (57 < (bt a0 2)) = false:=decide_eq_false c15
          clear c15
          simp only [Option.some.injEq,Prod.mk.injEq] at H
          obtain ⟨rfl,rfl,rfl⟩:=H
          have p4 : 0 ≤ (0 : Int):=(by omega)
          have q4 : 0 < a0.size:=(by have : (0 : Int) < (a0.size : Int):=Up.od;omega)
          have hx4 : ∀ h : 0 < a0.size,((a0[0]'h).toNat : Int) = bt a0 0:=bt_at a0 0
          clear p4
          have qi4 : (0 < (a0.size : Int)) = True:=eq_true (Up.od)
          replace q4:=eq_true q4
          have p7 : 0 ≤ (1 : Int):=(by omega)
          have q7 : 1 < a0.size:=(by have : (1 : Int) < (a0.size : Int):=Up.od;omega)
          have hx7 : ∀ h : 1 < a0.size,((a0[1]'h).toNat : Int) = bt a0 1:=bt_at a0 1
          clear p7
          have qi7 : (1 < (a0.size : Int)) = True:=eq_true (Up.od)
          replace q7:=eq_true q7
          have p9 : 0 ≤ (1 : Int):=(by omega)
          have q9 : 1 < a0.size:=(by have : (1 : Int) < (a0.size : Int):=Up.od;omega)
          have hx9 : ∀ h : 1 < a0.size,((a0[1]'h).toNat : Int) = bt a0 1:=bt_at a0 1
          clear p9
          have qi9 : (1 < (a0.size : Int)) = True:=eq_true (Up.od)
          replace q9:=eq_true q9
          have p12 : 0 ≤ (2 : Int):=(by omega)
          have q12 : 2 < a0.size:=(by have : (2 : Int) < (a0.size : Int):=Up.od;omega)
          have hx12 : ∀ h : 2 < a0.size,((a0[2]'h).toNat : Int) = bt a0 2:=bt_at a0 2
          clear p12
          have qi12 : (2 < (a0.size : Int)) = True:=eq_true (Up.od)
          replace q12:=eq_true q12
          have p14 : 0 ≤ (2 : Int):=(by omega)
          have q14 : 2 < a0.size:=(by have : (2 : Int) < (a0.size : Int):=Up.od;omega)
          have hx14 : ∀ h : 2 < a0.size,((a0[2]'h).toNat : Int) = bt a0 2:=bt_at a0 2
          clear p14
          have qi14 : (2 < (a0.size : Int)) = True:=eq_true (Up.od)
          replace q14:=eq_true q14
          have p16 : 0 ≤ (1 : Int):=(by omega)
          have q16 : 1 < a0.size:=(by have : (1 : Int) < (a0.size : Int):=Up.od;omega)
          have hx16 : ∀ h : 1 < a0.size,((a0[1]'h).toNat : Int) = bt a0 1:=bt_at a0 1
          clear p16
          have qi16 : (1 < (a0.size : Int)) = True:=eq_true (Up.od)
          replace q16:=eq_true q16
          have p17 : 0 ≤ (2 : Int):=(by omega)
          have q17 : 2 < a0.size:=(by have : (2 : Int) < (a0.size : Int):=Up.od;omega)
          have hx17 : ∀ h : 2 < a0.size,((a0[2]'h).toNat : Int) = bt a0 2:=bt_at a0 2
          clear p17
          have qi17 : (2 < (a0.size : Int)) = True:=eq_true (Up.od)
          replace q17:=eq_true q17
          go_enter Tryd.func71,Tryd.ntmps71
          go_wp2
          repeat (go_quiet (fail);try go_wp2)
          go_ret3
          exact Up.e2
       ·rw [if_neg c11] at H
        exact absurd H (by simp)
    ·rw [if_neg c6] at H
     exact absurd H (by simp)
   ·rw [if_neg c5] at H
    have c5b0 : ((bt a0 0) == 83) = false:=beq_eq_false_iff_ne.mpr c5
    have c5b1 : ((bt a0 0) != 83) = true:=bne_iff_ne.mpr c5
    simp only [Option.some.injEq,Prod.mk.injEq] at H
    obtain ⟨rfl,rfl,rfl⟩:=H
    have p4 : 0 ≤ (0 : Int):=(by omega)
    have q4 : 0 < a0.size:=(by have : (0 : Int) < (a0.size : Int):=Up.od;omega)
    have hx4 : ∀ h : 0 < a0.size,((a0[0]'h).toNat : Int) = bt a0 0:=bt_at a0 0
    clear p4
    have qi4 : (0 < (a0.size : Int)) = True:=eq_true (Up.od)
    replace q4:=eq_true q4
    go_enter Tryd.func71,Tryd.ntmps71
    go_wp2
    repeat (go_quiet (fail);try go_wp2)
    go_ret3
    exact Up.e2
  ·rw [if_neg c3] at H
   exact absurd H (by simp)
 ·rw [if_neg c2] at H
  have c2b0 : ((a0.size : Int) == 3) = false:=beq_eq_false_iff_ne.mpr c2
  have c2b1 : ((a0.size : Int) != 3) = true:=bne_iff_ne.mpr c2
  simp only [Option.some.injEq,Prod.mk.injEq] at H
  obtain ⟨rfl,rfl,rfl⟩:=H
  go_enter Tryd.func71,Tryd.ntmps71
  go_wp2
  repeat (go_quiet (fail);try go_wp2)
  go_ret3
  exact Up.e2

/-! ### impl_kindIn: function 64 -/
def impl_kindIn.f (l0 : List (List (S81))) (a1 : ByteArray) : Option (Bool):=(impl_kindAt.f a1).bind fun bt356 => (if bt356.2.2 = true then (if bt356.1 < (l0.length : Int) then (if 0 ≤ bt356.1 then (some (decide (bt356.2.1 < ((rd_L5 l0 bt356.1).length : Int)))) else (none)) else (some false)) else (some false))
set_option maxHeartbeats 8000000 in
set_option maxRecDepth 100000 in
theorem impl_kindIn.calls (A0 : Option Addr) (c0 : Nat) (l0 : List (List (S81))) (a1 : ByteArray) (r : Bool) (w : World) (hr0 : Kd.C (Kd.slice 81 k81) w A0 l0.length l0) (hc0 : l0.length ≤ c0) (h : impl_kindIn.f l0 a1 = some r) :
  Calls Tryd.prog 64 #[.slice A0 l0.length c0,.string a1] w fun e w' => e = .returned (.bool r) ∧ Drawn0 w w':=by
 have HR0:=Aside0.mk hr0
 have HC0:=Aside0.mk hc0
 clear hr0 hc0
 have H : ((impl_kindAt.f a1).bind fun bt356 => (if bt356.2.2 = true then (if bt356.1 < (l0.length : Int) then (if 0 ≤ bt356.1 then (some (decide (bt356.2.1 < ((rd_L5 l0 bt356.1).length : Int)))) else (none)) else (some false)) else (some false))) = some r:=h
 clear h
 replace H:=Option.bind_eq_some_iff.mp H
 obtain ⟨⟨t356,t357,t358⟩,A30,H⟩:=H
 replace H : (if t358 = true then (if t356 < (l0.length : Int) then (if 0 ≤ t356 then (some (decide (t357 < ((rd_L5 l0 t356).length : Int)))) else (none)) else (some false)) else (some false)) = some r:=H
 have A3:=Aside0.mk A30
 clear A30
 by_cases c4 : t358 = true
 ·subst c4
  have H1 : (if t356 < (l0.length : Int) then (if 0 ≤ t356 then (some (decide (t357 < ((rd_L5 l0 t356).length : Int)))) else (none)) else (some false)) = some r:=by rw [if_pos rfl] at H;exact H
  clear H
  have H:=H1
  clear H1
  by_cases c5 : t356 < (l0.length : Int)
  ·rw [if_pos c5] at H
   have c5b0 : decide (t356 < (l0.length : Int)) = true:=decide_eq_true c5
   clear c5
   by_cases c6 : 0 ≤ t356
   ·rw [if_pos c6] at H
    have c6b0 : decide (0 ≤ t356) = true:=decide_eq_true c6
    clear c6
    obtain rfl:=Option.some.inj H
    go_enter Tryd.func64,Tryd.ntmps64
    go_wp2_with (first | ((with_reducible refine gate_callee (f:=71) rfl ?_);refine Up.gl (some 10) Tryd.func71 #[.string a1] ?_;(with_reducible refine (impl_kindAt.calls a1 t356 t357 true _ A3.out).mono ?_);rintro e w' ⟨rfl,⟨nd,rfl⟩⟩;refine ⟨_,rfl,?_⟩;have p359 : 0 ≤ (t356 : Int):=Up.od;have q359 : t356 < (l0.length : Int):=Up.od;obtain ⟨ad359,A359_0,c359_0,e359,hx359_0,hl359_0,hi359_0⟩:=at_L5 HR0.out t356 p359 q359;cases e359;have HR359_0:=Aside0.mk hi359_0;have HC359_0:=Aside0.mk hl359_0;clear hi359_0 hl359_0;replace p359:=eq_true p359;replace q359:=eq_true q359))
    go_ret
    exact Up.e2
   ·rw [if_neg c6] at H
    exact absurd H (by simp)
  ·rw [if_neg c5] at H
   have c5b0 : decide (t356 < (l0.length : Int)) = false:=decide_eq_false c5
   clear c5
   obtain rfl:=Option.some.inj H
   go_enter Tryd.func64,Tryd.ntmps64
   go_wp2_with (first | ((with_reducible refine gate_callee (f:=71) rfl ?_);refine Up.gl (some 10) Tryd.func71 #[.string a1] ?_;(with_reducible refine (impl_kindAt.calls a1 t356 t357 true _ A3.out).mono ?_);rintro e w' ⟨rfl,⟨nd,rfl⟩⟩;refine ⟨_,rfl,?_⟩))
   go_ret
   exact Up.e2
 ·replace c4:=Bool.eq_false_iff.mpr c4
  subst c4
  have H1 : (some false) = some r:=by rw [if_neg (show ¬ (false = true) by decide)] at H;exact H
  clear H
  have H:=H1
  clear H1
  obtain rfl:=Option.some.inj H
  go_enter Tryd.func64,Tryd.ntmps64
  go_wp2_with (first | ((with_reducible refine gate_callee (f:=71) rfl ?_);refine Up.gl (some 10) Tryd.func71 #[.string a1] ?_;(with_reducible refine (impl_kindAt.calls a1 t356 t357 false _ A3.out).mono ?_);rintro e w' ⟨rfl,⟨nd,rfl⟩⟩;refine ⟨_,rfl,?_⟩))
  go_ret
  exact Up.e2

/-! ### impl_plainOk: function 55 -/
def impl_plainOk.f (l0 : List (List (S81))) (a1 : ByteArray) : Option (Bool):=if a1.toList = ([110] : List UInt8) then (some true) else (if a1.toList = ([98] : List UInt8) then (some true) else (if a1.toList = ([111] : List UInt8) then (some true) else ((impl_kindIn.f l0 a1).bind fun t360 => (some t360))))
set_option maxHeartbeats 8000000 in
set_option maxRecDepth 100000 in
theorem impl_plainOk.calls (A0 : Option Addr) (c0 : Nat) (l0 : List (List (S81))) (a1 : ByteArray) (r : Bool) (w : World) (hr0 : Kd.C (Kd.slice 81 k81) w A0 l0.length l0) (hc0 : l0.length ≤ c0) (h : impl_plainOk.f l0 a1 = some r) :
  Calls Tryd.prog 55 #[.slice A0 l0.length c0,.string a1] w fun e w' => e = .returned (.bool r) ∧ Drawn0 w w':=by
 have HR0:=Aside0.mk hr0
 have HC0:=Aside0.mk hc0
 clear hr0 hc0
 have H : (if a1.toList = ([110] : List UInt8) then (some true) else (if a1.toList = ([98] : List UInt8) then (some true) else (if a1.toList = ([111] : List UInt8) then (some true) else ((impl_kindIn.f l0 a1).bind fun t360 => (some t360))))) = some r:=h
 clear h
 by_cases c3 : a1.toList = ([110] : List UInt8)
 ·rw [if_pos c3] at H
  have c3b0 : (a1.toList == ([110] : List UInt8)) = true:=beq_iff_eq.mpr c3
  have c3b1 : (a1.toList != ([110] : List UInt8)) = false:=bne_eq_false_iff_eq.mpr c3
  clear c3
  obtain rfl:=Option.some.inj H
  go_enter Tryd.func55,Tryd.ntmps55
  go_wp2
  go_ret
  exact Up.e2
 ·rw [if_neg c3] at H
  have c3b0 : (a1.toList == ([110] : List UInt8)) = false:=beq_eq_false_iff_ne.mpr c3
  have c3b1 : (a1.toList != ([110] : List UInt8)) = true:=bne_iff_ne.mpr c3
  by_cases c4 : a1.toList = ([98] : List UInt8)
  ·rw [if_pos c4] at H
   have c4b0 : (a1.toList == ([98] : List UInt8)) = true:=beq_iff_eq.mpr c4
   have c4b1 : (a1.toList != ([98] : List UInt8)) = false:=bne_eq_false_iff_eq.mpr c4
   clear c4
   obtain rfl:=Option.some.inj H
   go_enter Tryd.func55,Tryd.ntmps55
   go_wp2
   go_ret
   exact Up.e2
  ·rw [if_neg c4] at H
   have c4b0 : (a1.toList == ([98] : List UInt8)) = false:=beq_eq_false_iff_ne.mpr c4
   have c4b1 : (a1.toList != ([98] : List UInt8)) = true:=bne_iff_ne.mpr c4
   by_cases c5 : a1.toList = ([111] : List UInt8)
   ·rw [if_pos c5] at H
    have c5b0 : (a1.toList == ([111] : List UInt8)) = true:=beq_iff_eq.mpr c5
    have c5b1 : (a1.toList != ([111] : List UInt8)) = false:=bne_eq_false_iff_eq.mpr c5
    clear c5
    obtain rfl:=Option.some.inj H
    go_enter Tryd.func55,Tryd.ntmps55
    go_wp2
    go_ret
    exact Up.e2
   ·rw [if_neg c5] at H
    have c5b0 : (a1.toList == ([111] : List UInt8)) = false:=beq_eq_false_iff_ne.mpr c5
    have c5b1 : (a1.toList != ([111] : List UInt8)) = true:=bne_iff_ne.mpr c5
    replace H:=Option.bind_eq_some_iff.mp H
    obtain ⟨t360,A60,H⟩:=H
    replace H : (some t360) = some r:=H
    have A6:=Aside0.mk A60
    clear A60
    obtain rfl:=Option.some.inj H
    go_enter Tryd.func55,Tryd.ntmps55
    go_wp2_with (first | (go_at_call 64;(with_reducible refine (impl_kindIn.calls _ _ l0 a1 t360 _ ?side1 ?side2 A6.out).mono ?_);(case side1 => repeat (first | exact HR0.out | (with_reducible refine Kd.C_alloc ?_ _) | (with_reducible refine Kd.C_drewN ?_ _) | (with_reducible refine Kd.C_drew ?_)));(case side2 => exact HC0.out);rintro e w' ⟨rfl,⟨nd,rfl⟩⟩))
    go_ret
    exact Up.e2

/-! ### impl_recordOf: function 56 -/
def impl_recordOf.f (l0 : List (List (S81))) (a1 : ByteArray) : Option (Int × List ByteArray):=(impl_kindAt.f a1).bind fun bt362 => (if 0 ≤ bt362.1 then (if bt362.1 < (l0.length : Int) then (if 0 ≤ bt362.2.1 then (if bt362.2.1 < ((rd_L5 l0 bt362.1).length : Int) then (some ((rd_T81 (rd_L5 l0 bt362.1) bt362.2.1).f0,(rd_T81 (rd_L5 l0 bt362.1) bt362.2.1).f1)) else (none)) else (none)) else (none)) else (none))
set_option maxHeartbeats 8000000 in
set_option maxRecDepth 100000 in
theorem impl_recordOf.calls (P0_ : Nat → Prop) (A0 : Option Addr) (c0 : Nat) (l0 : List (List (S81))) (a1 : ByteArray) (r1 : Int) (r2 : List ByteArray) (w : World) (hs0 : Kd.V (Kd.slice 81 k81) 66 w w.heap.size (fun k_ => P0_ k_) (.slice A0 l0.length c0) l0) (h : impl_recordOf.f l0 a1 = some (r1,r2)) :
  Calls Tryd.prog 56 #[.slice A0 l0.length c0,.string a1] w fun e w' => ∃ v1_ : Value,e = .returned (.agg #[.int .i64 r1,v1_]) ∧ Kd.V Kd.string 9 w' w.heap.size (fun k_ => (P0_ k_ ∨ w.heap.size ≤ k_)) v1_ r2 ∧ Below w.heap.size w w':=by
 have hu81:=Tryd.underlying81
 have HO0:=Aside0.mk (show Kd.V (Kd.slice 81 k81) 66 w w.heap.size (fun k_ => (P0_ k_ ∨ w.heap.size ≤ k_)) (.slice A0 l0.length c0) l0 from Kd.V_mono hs0 (fun k_ hk => .inl hk))
 have HB:=Aside0.mk (Below.refl w.heap.size w)
 have H : ((impl_kindAt.f a1).bind fun bt362 => (if 0 ≤ bt362.1 then (if bt362.1 < (l0.length : Int) then (if 0 ≤ bt362.2.1 then (if bt362.2.1 < ((rd_L5 l0 bt362.1).length : Int) then (some ((rd_T81 (rd_L5 l0 bt362.1) bt362.2.1).f0,(rd_T81 (rd_L5 l0 bt362.1) bt362.2.1).f1)) else (none)) else (none)) else (none)) else (none))) = some (r1,r2):=h
 clear h
 replace H:=Option.bind_eq_some_iff.mp H
 obtain ⟨⟨t362,t363,t364⟩,A30,H⟩:=H
 replace H : (if 0 ≤ t362 then (if t362 < (l0.length : Int) then (if 0 ≤ t363 then (if t363 < ((rd_L5 l0 t362).length : Int) then (some ((rd_T81 (rd_L5 l0 t362) t363).f0,(rd_T81 (rd_L5 l0 t362) t363).f1)) else (none)) else (none)) else (none)) else (none)) = some (r1,r2):=H
 have A3:=Aside0.mk A30
 clear A30
 by_cases c4 : 0 ≤ t362
 ·rw [if_pos c4] at H
  have c4b0 : decide (0 ≤ t362) = true:=decide_eq_true c4
  clear c4
  by_cases c5 : t362 < (l0.length : Int)
  ·rw [if_pos c5] at H
   have c5b0 : decide (t362 < (l0.length : Int)) = true:=decide_eq_true c5
   clear c5
   by_cases c6 : 0 ≤ t363
   ·rw [if_pos c6] at H
    have c6b0 : decide (0 ≤ t363) = true:=decide_eq_true c6
    clear c6
    by_cases c7 : t363 < ((rd_L5 l0 t362).length : Int)
    ·rw [if_pos c7] at H
     have c7b0 : decide (t363 < ((rd_L5 l0 t362).length : Int)) = true:=decide_eq_true c7
     clear c7
     simp only [Option.some.injEq,Prod.mk.injEq] at H
     obtain ⟨rfl,rfl⟩:=H
     go_enter Tryd.func56,Tryd.ntmps56
     go_wp2_with (first | ((with_reducible refine gate_dst (N:=4) rfl ?_);refine Up.bx 4 81 #[.int .i64 0,.slice none 0 0] ?_;intro gb361 hg w8 hbox hb;have n0_:=Aside0.mk (Kd.V_below (Kd.V_elderB (Up.Vup HO0) gb361 (Nat.le_of_eq hg.symm)) hb);have n1_:=Up.BB HB hb;have n2_:=Aside0.mk (hbox);have n3_:=Up.gw hg HB;have n4_:=Up.gw hg HB;clear HO0 HB;have HO0:=n0_;have HB:=n1_;have BK361:=n2_;have GW361:=n3_;have GE361:=n4_;clear n0_ n1_ n2_ n3_ n4_ hb hbox hg) | ((with_reducible refine gate_callee (f:=71) rfl ?_);refine Up.gl (some 10) Tryd.func71 #[.string a1] ?_;(with_reducible refine (impl_kindAt.calls a1 t362 t363 t364 _ A3.out).mono ?_);rintro e w' ⟨rfl,⟨nd,rfl⟩⟩;refine ⟨_,rfl,?_⟩;(try (rw [drewN_self w8];generalize hq_ : World.drewN w8 _ = w8;have n0_ : Aside0 (Kd.V (Kd.slice 81 k81) 66 w8 w.heap.size (fun k_ => (P0_ k_ ∨ w.heap.size ≤ k_) ∧ k_ ≠ gb361) (.slice A0 l0.length c0) l0):=⟨by rw [← hq_];exact (Up.Vup HO0)⟩;have n1_ : Aside0 (w8.heap[gb361]? = some (.cells #[.int .i64 0,.slice none 0 0] 81 (0,0))):=⟨by rw [← hq_];exact (Up.Kup BK361)⟩;have n2_ : Aside0 (Below w.heap.size w w8):=⟨by rw [← hq_];exact (Up.Bx HB)⟩;clear HO0 BK361 HB hq_;have HO0:=n0_;have BK361:=n1_;have HB:=n2_;clear n0_ n1_ n2_));have p365 : 0 ≤ (t362 : Int):=Up.od;have q365 : t362 < (l0.length : Int):=Up.od;obtain ⟨ad365,A365_0,c365_0,e365,hx365_0,hl365_0,hi365_0⟩:=at_L5 (Kd.V_reads' HO0.out).2.2 t362 p365 q365;cases e365;obtain ⟨ce365,hce365,hMe365,hcc365⟩:=Kd.V_get HO0.out [] t362 p365 (by first | exact q365 | exact Up.od | (have e_:=(Kd.V_reads' HO0.out).1;omega));obtain ⟨ua365_0,uc365_0,rfl,ul365_0,ge365_0⟩:=Kd.FK_slice_open hMe365;have hv365_0:=hcc365 0 _ rfl;rw [Nat.add_zero,show ((Kd.slice 81 k81)).sz = 1 from rfl,Nat.mul_one] at hv365_0;replace hv365_0:=Option.some.inj (hv365_0.symm.trans hx365_0);injection hv365_0 with hva_ hvn_ hvc_;rw [hva_] at ge365_0;rw [hvc_] at ul365_0;have HL365_0:=Aside0.mk (show Kd.V k81 81 _ w.heap.size _ _ (rd_L5 l0 t362) from Kd.V_mk ul365_0 ge365_0);clear hva_ hvn_ hvc_ ge365_0 ul365_0 hcc365 hce365;have HR365_0:=Aside0.mk hi365_0;have HC365_0:=Aside0.mk hl365_0;clear hi365_0 hl365_0;replace p365:=eq_true p365;replace q365:=eq_true q365;have p366 : 0 ≤ (t363 : Int):=Up.od;have q366 : t363 < ((rd_L5 l0 t362).length : Int):=Up.od;obtain ⟨ad366,A366_1,c366_1,e366,hx366_0,hx366_1,hl366_1,hi366_1⟩:=at_T81 (by repeat (first | (with_reducible exact HR365_0.out) | (with_reducible refine Kd.C_alloc ?_ _) | (with_reducible refine Kd.C_drewN ?_ _) | (with_reducible refine Kd.C_drew ?_) | exact HR365_0.out)) t363 p366 q366;cases e366;obtain ⟨ce366,hce366,hMe366,hcc366⟩:=Kd.V_get HL365_0.out z81 t363 p366 (by first | exact q366 | exact Up.od | (have e_:=(Kd.V_reads' HL365_0.out).1;omega));obtain ⟨ua366_1,uc366_1,rfl,ul366_1,ge366_1⟩:=k81_openF hMe366;have hv366_1:=hcc366 1 _ rfl;rw [add_field _ _ 1 (by omega)] at hv366_1;replace hv366_1:=Option.some.inj (hv366_1.symm.trans hx366_1);injection hv366_1 with hva_ hvn_ hvc_;rw [hva_] at ge366_1;rw [hvc_] at ul366_1;have HL366_1:=Aside0.mk (show Kd.V Kd.string 9 _ w.heap.size _ _ ((rd_T81 (rd_L5 l0 t362) t363).f1) from Kd.V_mk ul366_1 ge366_1);clear hva_ hvn_ hvc_ ge366_1 ul366_1 hcc366 hce366;have HR366_1:=Aside0.mk hi366_1;have HC366_1:=Aside0.mk hl366_1;clear hi366_1 hl366_1;replace p366:=eq_true p366;replace q366:=eq_true q366;have hcz9_0:=Up.c0 BK361;have hcz9_1:=Up.c1 BK361;have hfz9_0:=blk_frozen BK361.out 0;have hfz9_1:=blk_frozen BK361.out 1))
     refine bodyPost_ret (results_cell_row rfl _ _ gb361 81 #[.int .i64 ((rd_T81 (rd_L5 l0 t362) t363).f0),.slice A366_1 ((rd_T81 (rd_L5 l0 t362) t363).f1).length c366_1] (0,0) _ rfl (Up.Kx BK361) Tryd.underlying81 rfl (by kernel_rfl)) rfl ?_
     exact ⟨_,by first | rfl | (simp [errW_none,errW_some] <;> rfl) | (simp [*,errW_none,errW_some] <;> rfl),by (with_reducible repeat (first | apply Kd.V_alloc | apply Kd.V_drewN | apply Kd.V_drew));exact Kd.V_mono (Kd.V_far (p:=⟨gb361,1,none⟩) (Kd.V_far (p:=⟨gb361,0,none⟩) (Kd.V_mono HL366_1.out (fun k_ hk => (⟨hk,hk.2⟩ : _ ∧ k_ ≠ gb361))) (fun _ hk => hk.2) (.int .i64 ((rd_T81 (rd_L5 l0 t362) t363).f0))) (fun _ hk => hk.2) (.slice A366_1 ((rd_T81 (rd_L5 l0 t362) t363).f1).length c366_1)) (fun _ hk => hk.1.1),Up.Bx HB⟩
    ·rw [if_neg c7] at H
     exact absurd H (by simp)
   ·rw [if_neg c6] at H
    exact absurd H (by simp)
  ·rw [if_neg c5] at H
   exact absurd H (by simp)
 ·rw [if_neg c4] at H
  exact absurd H (by simp)

/-! ### impl_signOf: function 90 -/
def impl_signOf.f (a0 : ByteArray) : Option (ByteArray × ByteArray):=if a0.toList = ([] : List UInt8) then (some ((⟨#[]⟩ : ByteArray),a0)) else (if 0 < (a0.size : Int) then (if (bt a0 0) = 38 then (if 0 ≤ 1 then (if 1 ≤ (a0.size : Int) then (some (a0.extract 0 1,a0.extract 1 a0.size)) else (none)) else (none)) else (if (bt a0 0) = 33 then (if 0 ≤ 1 then (if 1 ≤ (a0.size : Int) then (some (a0.extract 0 1,a0.extract 1 a0.size)) else (none)) else (none)) else (some ((⟨#[]⟩ : ByteArray),a0)))) else (none))
set_option maxHeartbeats 8000000 in
set_option maxRecDepth 100000 in
theorem impl_signOf.calls (a0 : ByteArray) (r1 : ByteArray) (r2 : ByteArray) (w : World) (h : impl_signOf.f a0 = some (r1,r2)) :
  Calls Tryd.prog 90 #[.string a0] w fun e w' => e = .returned (.tuple #[.string r1,.string r2]) ∧ Drawn0 w w':=by
 have H : (if a0.toList = ([] : List UInt8) then (some ((⟨#[]⟩ : ByteArray),a0)) else (if 0 < (a0.size : Int) then (if (bt a0 0) = 38 then (if 0 ≤ 1 then (if 1 ≤ (a0.size : Int) then (some (a0.extract 0 1,a0.extract 1 a0.size)) else (none)) else (none)) else (if (bt a0 0) = 33 then (if 0 ≤ 1 then (if 1 ≤ (a0.size : Int) then (some (a0.extract 0 1,a0.extract 1 a0.size)) else (none)) else (none)) else (some ((⟨#[]⟩ : ByteArray),a0)))) else (none))) = some (r1,r2):=h
 clear h
 by_cases c2 : a0.toList = ([] : List UInt8)
 ·rw [if_pos c2] at H
  have c2b0 : (a0.toList == ([] : List UInt8)) = true:=beq_iff_eq.mpr c2
  have c2b1 : (a0.toList != ([] : List UInt8)) = false:=bne_eq_false_iff_eq.mpr c2
  clear c2
  simp only [Option.some.injEq,Prod.mk.injEq] at H
  obtain ⟨rfl,rfl⟩:=H
  go_enter Tryd.func90,Tryd.ntmps90
  go_wp2
  repeat (go_quiet (fail);try go_wp2)
  go_ret2
  exact Up.e2
 ·rw [if_neg c2] at H
  have c2b0 : (a0.toList == ([] : List UInt8)) = false:=beq_eq_false_iff_ne.mpr c2
  have c2b1 : (a0.toList != ([] : List UInt8)) = true:=bne_iff_ne.mpr c2
  by_cases c3 : 0 < (a0.size : Int)
  ·rw [if_pos c3] at H
   have c3b0 : decide (0 < (a0.size : Int)) = true:=decide_eq_true c3
   have c3b1 : decide (0 < a0.size) = true:=decide_eq_true (by omega)
   clear c3
   by_cases c5 : (bt a0 0) = 38
   ·rw [if_pos c5] at H
    have c5b0 : ((bt a0 0) == 38) = true:=beq_iff_eq.mpr c5
    have c5b1 : ((bt a0 0) != 38) = false:=bne_eq_false_iff_eq.mpr c5
    clear c5
    by_cases c6 : 0 ≤ 1
    ·rw [if_pos c6] at H
     have c6b0:=eq_true c6
     have c6b1 : decide (0 ≤ 1) = true:=decide_eq_true c6
     clear c6
     by_cases c7 : 1 ≤ (a0.size : Int)
     ·rw [if_pos c7] at H
      have c7b0:=eq_true c7
      have c7b1 : decide (1 ≤ (a0.size : Int)) = true:=decide_eq_true c7
      clear c7
      have c8b0:=eq_true (Up.od : 1 ≤ (a0.size : Int))
      simp only [Option.some.injEq,Prod.mk.injEq] at H
      obtain ⟨rfl,rfl⟩:=H
      have p4 : 0 ≤ (0 : Int):=(by omega)
      have q4 : 0 < a0.size:=(by have : (0 : Int) < (a0.size : Int):=Up.od;omega)
      have hx4 : ∀ h : 0 < a0.size,((a0[0]'h).toNat : Int) = bt a0 0:=bt_at a0 0
      clear p4
      have qi4 : (0 < (a0.size : Int)) = True:=eq_true (Up.od)
      replace q4:=eq_true q4
      go_enter Tryd.func90,Tryd.ntmps90
      go_wp2
      repeat (go_quiet (fail);try go_wp2)
      go_ret2
      exact Up.e2
     ·rw [if_neg c7] at H
      exact absurd H (by simp)
    ·rw [if_neg c6] at H
     exact absurd H (by simp)
   ·rw [if_neg c5] at H
    have c5b0 : ((bt a0 0) == 38) = false:=beq_eq_false_iff_ne.mpr c5
    have c5b1 : ((bt a0 0) != 38) = true:=bne_iff_ne.mpr c5
    by_cases c10 : (bt a0 0) = 33
    ·rw [if_pos c10] at H
     have c10b0 : ((bt a0 0) == 33) = true:=beq_iff_eq.mpr c10
     have c10b1 : ((bt a0 0) != 33) = false:=bne_eq_false_iff_eq.mpr c10
     clear c10
     by_cases c11 : 0 ≤ 1
     ·rw [if_pos c11] at H
      have c11b0:=eq_true c11
      have c11b1 : decide (0 ≤ 1) = true:=decide_eq_true c11
      clear c11
      by_cases c12 : 1 ≤ (a0.size : Int)
      ·rw [if_pos c12] at H
       have c12b0:=eq_true c12
       have c12b1 : decide (1 ≤ (a0.size : Int)) = true:=decide_eq_true c12
       clear c12
       have c13b0:=eq_true (Up.od : 1 ≤ (a0.size : Int))
       simp only [Option.some.injEq,Prod.mk.injEq] at H
       obtain ⟨rfl,rfl⟩:=H
       have p4 : 0 ≤ (0 : Int):=(by omega)
       have q4 : 0 < a0.size:=(by have : (0 : Int) < (a0.size : Int):=Up.od;omega)
       have hx4 : ∀ h : 0 < a0.size,((a0[0]'h).toNat : Int) = bt a0 0:=bt_at a0 0
       clear p4
       have qi4 : (0 < (a0.size : Int)) = True:=eq_true (Up.od)
       replace q4:=eq_true q4
       have p9 : 0 ≤ (0 : Int):=(by omega)
       have q9 : 0 < a0.size:=(by have : (0 : Int) < (a0.size : Int):=Up.od;omega)
       have hx9 : ∀ h : 0 < a0.size,((a0[0]'h).toNat : Int) = bt a0 0:=bt_at a0 0
       clear p9
       have qi9 : (0 < (a0.size : Int)) = True:=eq_true (Up.od)
       replace q9:=eq_true q9
       go_enter Tryd.func90,Tryd.ntmps90
       go_wp2
       repeat (go_quiet (fail);try go_wp2)
       go_ret2
       exact Up.e2
      ·rw [if_neg c12] at H
       exact absurd H (by simp)
     ·rw [if_neg c11] at H
      exact absurd H (by simp)
    ·rw [if_neg c10] at H
     have c10b0 : ((bt a0 0) == 33) = false:=beq_eq_false_iff_ne.mpr c10
     have c10b1 : ((bt a0 0) != 33) = true:=bne_iff_ne.mpr c10
     simp only [Option.some.injEq,Prod.mk.injEq] at H
     obtain ⟨rfl,rfl⟩:=H
     have p4 : 0 ≤ (0 : Int):=(by omega)
     have q4 : 0 < a0.size:=(by have : (0 : Int) < (a0.size : Int):=Up.od;omega)
     have hx4 : ∀ h : 0 < a0.size,((a0[0]'h).toNat : Int) = bt a0 0:=bt_at a0 0
     clear p4
     have qi4 : (0 < (a0.size : Int)) = True:=eq_true (Up.od)
     replace q4:=eq_true q4
     have p9 : 0 ≤ (0 : Int):=(by omega)
     have q9 : 0 < a0.size:=(by have : (0 : Int) < (a0.size : Int):=Up.od;omega)
     have hx9 : ∀ h : 0 < a0.size,((a0[0]'h).toNat : Int) = bt a0 0:=bt_at a0 0
     clear p9
     have qi9 : (0 < (a0.size : Int)) = True:=eq_true (Up.od)
     replace q9:=eq_true q9
     go_enter Tryd.func90,Tryd.ntmps90
     go_wp2
     repeat (go_quiet (fail);try go_wp2)
     go_ret2
     exact Up.e2
  ·rw [if_neg c3] at H
   exact absurd H (by simp)

/-! ### impl_ableOf: function 82 -/
def impl_ableOf.f (l0 : List (List (S81))) (a1 : ByteArray) : Option (Int):=(impl_signOf.f a1).bind fun bt367 => (if bt367.1.toList = ([38] : List UInt8) then (some 3) else (if bt367.1.toList = ([33] : List UInt8) then (some 2) else ((impl_kindIn.f l0 bt367.2).bind fun t369 => (if t369 = true then ((impl_recordOf.f l0 bt367.2).bind fun bt370 => (some bt370.1)) else (some 7)))))
set_option maxHeartbeats 8000000 in
set_option maxRecDepth 100000 in
theorem impl_ableOf.calls (A0 : Option Addr) (c0 : Nat) (l0 : List (List (S81))) (a1 : ByteArray) (r : Int) (w : World) (hr0 : Kd.C (Kd.slice 81 k81) w A0 l0.length l0) (hc0 : l0.length ≤ c0) (h : impl_ableOf.f l0 a1 = some r) :
  Calls Tryd.prog 82 #[.slice A0 l0.length c0,.string a1] w fun e w' => e = .returned (.int .i64 r) ∧ Below w.heap.size w w':=by
 have HR0:=Aside0.mk hr0
 have HC0:=Aside0.mk hc0
 clear hr0 hc0
 have HB:=Aside0.mk (Below.refl w.heap.size w)
 have H : ((impl_signOf.f a1).bind fun bt367 => (if bt367.1.toList = ([38] : List UInt8) then (some 3) else (if bt367.1.toList = ([33] : List UInt8) then (some 2) else ((impl_kindIn.f l0 bt367.2).bind fun t369 => (if t369 = true then ((impl_recordOf.f l0 bt367.2).bind fun bt370 => (some bt370.1)) else (some 7)))))) = some r:=h
 clear h
 replace H:=Option.bind_eq_some_iff.mp H
 obtain ⟨⟨t367,t368⟩,A30,H⟩:=H
 replace H : (if t367.toList = ([38] : List UInt8) then (some 3) else (if t367.toList = ([33] : List UInt8) then (some 2) else ((impl_kindIn.f l0 t368).bind fun t369 => (if t369 = true then ((impl_recordOf.f l0 t368).bind fun bt370 => (some bt370.1)) else (some 7))))) = some r:=H
 have A3:=Aside0.mk A30
 clear A30
 by_cases c4 : t367.toList = ([38] : List UInt8)
 ·rw [if_pos c4] at H
  have c4b0 : (t367.toList == ([38] : List UInt8)) = true:=beq_iff_eq.mpr c4
  have c4b1 : (t367.toList != ([38] : List UInt8)) = false:=bne_eq_false_iff_eq.mpr c4
  clear c4
  obtain rfl:=Option.some.inj H
  go_enter Tryd.func82,Tryd.ntmps82
  go_wp2_with (first | ((with_reducible refine gate_callee (f:=90) rfl ?_);refine Up.gl (some 9) Tryd.func90 #[.string a1] ?_;(with_reducible refine (impl_signOf.calls a1 t367 t368 _ A3.out).mono ?_);rintro e w' ⟨rfl,⟨nd,rfl⟩⟩;refine ⟨_,rfl,?_⟩))
  go_ret
  exact Up.e1 (Up.Bup HB)
 ·rw [if_neg c4] at H
  have c4b0 : (t367.toList == ([38] : List UInt8)) = false:=beq_eq_false_iff_ne.mpr c4
  have c4b1 : (t367.toList != ([38] : List UInt8)) = true:=bne_iff_ne.mpr c4
  by_cases c5 : t367.toList = ([33] : List UInt8)
  ·rw [if_pos c5] at H
   have c5b0 : (t367.toList == ([33] : List UInt8)) = true:=beq_iff_eq.mpr c5
   have c5b1 : (t367.toList != ([33] : List UInt8)) = false:=bne_eq_false_iff_eq.mpr c5
   clear c5
   obtain rfl:=Option.some.inj H
   go_enter Tryd.func82,Tryd.ntmps82
   go_wp2_with (first | ((with_reducible refine gate_callee (f:=90) rfl ?_);refine Up.gl (some 9) Tryd.func90 #[.string a1] ?_;(with_reducible refine (impl_signOf.calls a1 t367 t368 _ A3.out).mono ?_);rintro e w' ⟨rfl,⟨nd,rfl⟩⟩;refine ⟨_,rfl,?_⟩))
   go_ret
   exact Up.e1 (Up.Bup HB)
  ·rw [if_neg c5] at H
   have c5b0 : (t367.toList == ([33] : List UInt8)) = false:=beq_eq_false_iff_ne.mpr c5
   have c5b1 : (t367.toList != ([33] : List UInt8)) = true:=bne_iff_ne.mpr c5
   replace H:=Option.bind_eq_some_iff.mp H
   obtain ⟨t369,A60,H⟩:=H
   replace H : (if t369 = true then ((impl_recordOf.f l0 t368).bind fun bt370 => (some bt370.1)) else (some 7)) = some r:=H
   have A6:=Aside0.mk A60
   clear A60
   by_cases c7 : t369 = true
   ·subst c7
    have H1 : ((impl_recordOf.f l0 t368).bind fun bt370 => (some bt370.1)) = some r:=by rw [if_pos rfl] at H;exact H
    clear H
    have H:=H1
    clear H1
    replace H:=Option.bind_eq_some_iff.mp H
    obtain ⟨⟨t370,t371⟩,A80,H⟩:=H
    replace H : (some t370) = some r:=H
    have A8:=Aside0.mk A80
    clear A80
    obtain rfl:=Option.some.inj H
    go_enter Tryd.func82,Tryd.ntmps82
    go_wp2_with (first | ((with_reducible refine gate_callee (f:=90) rfl ?_);refine Up.gl (some 9) Tryd.func90 #[.string a1] ?_;(with_reducible refine (impl_signOf.calls a1 t367 t368 _ A3.out).mono ?_);rintro e w' ⟨rfl,⟨nd,rfl⟩⟩;refine ⟨_,rfl,?_⟩) | ((with_reducible refine gate_callee (f:=64) rfl ?_);refine Up.gl (some 21) Tryd.func64 #[.slice A0 l0.length c0,.string t368] ?_;(with_reducible refine (impl_kindIn.calls _ _ l0 t368 true _ ?side1 ?side2 A6.out).mono ?_);(case side1 => repeat (first | exact HR0.out | (with_reducible refine Kd.C_alloc ?_ _) | (with_reducible refine Kd.C_drewN ?_ _) | (with_reducible refine Kd.C_drew ?_)));(case side2 => exact HC0.out);rintro e w' ⟨rfl,⟨nd,rfl⟩⟩;refine ⟨_,rfl,?_⟩) | ((with_reducible refine gate_callee (f:=56) rfl ?_);refine Up.gl (some 24) Tryd.func56 #[.slice A0 l0.length c0,.string t368] ?_;(with_reducible refine (impl_recordOf.calls (fun k_ => k_ < w.heap.size) _ _ l0 t368 t370 t371 _ ?side1 A8.out).mono ?_);(case side1 => exact Kd.V_mk HC0.out (Kd.F_below (Kd.C_F (Kd.heap_slice 81 k81_heap) HR0.out) (Up.Bup HB)));rintro e w9 ⟨v372,rfl,ho0,hb⟩;refine ⟨_,rfl,?_⟩;have n0_:=Aside0.mk (Kd.V_lower (Kd.V_mono (ok':=fun k_ => True) ho0 (fun k_ hk_ => trivial)) (below_size (Up.Bup HB)));have n1_:=Up.BB HB hb;clear HB;have HO373:=n0_;have HB:=n1_;clear n0_ n1_;(try clear hb);(try clear hb2);(try clear hk);(try clear hi);(try clear ho0);(obtain ⟨Av_,cv_,ev_⟩:=Kd.V_slice HO373.out);subst ev_;(have hfl_ : ∀ w',(Instr.field 81 (.agg #[.int .i64 t370,.slice Av_ t371.length cv_]) 0).run Tryd.prog w' = .ok (.int .i64 t370) w':=fun _ => by kernel_rfl)))
    go_ret
    exact Up.e1 (Up.Bup HB)
   ·replace c7:=Bool.eq_false_iff.mpr c7
    subst c7
    have H1 : (some 7) = some r:=by rw [if_neg (show ¬ (false = true) by decide)] at H;exact H
    clear H
    have H:=H1
    clear H1
    obtain rfl:=Option.some.inj H
    go_enter Tryd.func82,Tryd.ntmps82
    go_wp2_with (first | ((with_reducible refine gate_callee (f:=90) rfl ?_);refine Up.gl (some 9) Tryd.func90 #[.string a1] ?_;(with_reducible refine (impl_signOf.calls a1 t367 t368 _ A3.out).mono ?_);rintro e w' ⟨rfl,⟨nd,rfl⟩⟩;refine ⟨_,rfl,?_⟩) | ((with_reducible refine gate_callee (f:=64) rfl ?_);refine Up.gl (some 21) Tryd.func64 #[.slice A0 l0.length c0,.string t368] ?_;(with_reducible refine (impl_kindIn.calls _ _ l0 t368 false _ ?side1 ?side2 A6.out).mono ?_);(case side1 => repeat (first | exact HR0.out | (with_reducible refine Kd.C_alloc ?_ _) | (with_reducible refine Kd.C_drewN ?_ _) | (with_reducible refine Kd.C_drew ?_)));(case side2 => exact HC0.out);rintro e w' ⟨rfl,⟨nd,rfl⟩⟩;refine ⟨_,rfl,?_⟩))
    go_ret
    exact Up.e1 (Up.Bup HB)

end Go.Proofs.YtdgmlakgnbmbbaaDoor.OFnValueOk
