-- Laid by a program of this session (wip/myprint.py): the kit's print of the functions, contracts of our own among them.
import Derived.Test.YtfkhjnmgaadomaaDoorOFnInsOkx0
import Derived.Test.YtfkhjnmgaadomaaDoorOFnInsOkx1
import Derived.Test.YtfkhjnmgaadomaaDoorOFnInsOkx2
namespace Go.Proofs.YtfkhjnmgaadomaaDoor.OFnInsOk
open Go.RowKit Go.Proofs.YtfkhjnmgaadomaaDoorW.PrintWords Go.Proofs.YtfkhjnmgaadomaaDoorW.PrintLast Go.Proofs.YtfkhjnmgaadomaaDoorW.PrintMore
attribute [local go_sem] max2_int min2_int max_two min_two max_three min_three max_four min_four   -- for this text's walks alone
set_option linter.unusedVariables false
set_option linter.unusedSimpArgs false

/-! ### spec_DrawInsOk: function 24 -/
mutual
def spec_DrawInsOk.j0 : Nat → List Int → Int → ByteArray → Int → Int → Option (ByteArray × Int × Int)
 | 0,_,_,_,_,_ => none
 | k + 1,x218000,x218001,x223000,x223001,x223002 => (spec_l6Rd_pick.f k x218000 x218001 6).bind fun bt230 => (if bt230.1 = 0 then ((spec_l91Num.f k x218000 bt230.2 (([(-1),1,4,3] : List Int))).bind fun bt235 => (spec_DrawInsOk.j1 k x218000 bt235.2 x223000 x223001 bt235.1)) else (spec_DrawInsOk.j1 k x218000 bt230.2 x223000 x223001 x223002))
def spec_DrawInsOk.j1 : Nat → List Int → Int → ByteArray → Int → Int → Option (ByteArray × Int × Int)
 | 0,_,_,_,_,_ => none
 | k + 1,x218000,x218001,x223000,x223001,x223002 => (spec_l6Rd_pick.f k x218000 x218001 15).bind fun bt237 => (if bt237.1 = 0 then ((spec_l6Rd_of.f k x218000 bt237.2 (([(⟨#[]⟩ : ByteArray),(⟨#[78,117,109]⟩ : ByteArray),(⟨#[103,111,116,111]⟩ : ByteArray)] : List ByteArray))).bind fun bt242 => (some (bt242.1,x223001,x223002))) else (some (x223000,x223001,x223002)))
end
def spec_DrawInsOk.f (k : Nat) (l0 : List Int) : Option (ByteArray × Int × Int):=(spec_l6Open.f l0).bind fun bt215 => ((spec_l91Ins.f k bt215.1 bt215.2).bind fun bt218 => ((spec_l6Rd_pick.f k bt215.1 bt218.2.2.2 4).bind fun bt223 => (if bt223.1 = 0 then ((spec_l91Num.f k bt215.1 bt223.2 (([(-1),3,6,40,39,1000000,1000001,0,5] : List Int))).bind fun bt228 => (spec_DrawInsOk.j0 k bt215.1 bt228.2 bt218.1 bt228.1 bt218.2.2.1)) else (spec_DrawInsOk.j0 k bt215.1 bt223.2 bt218.1 bt218.2.1 bt218.2.2.1))))
theorem spec_DrawInsOk.mono_l : ∀ k,(∀ y0 y1 y2 y3 y4,LeO (spec_DrawInsOk.j0 k y0 y1 y2 y3 y4) (spec_DrawInsOk.j0 (k + 1) y0 y1 y2 y3 y4)) ∧ (∀ y0 y1 y2 y3 y4,LeO (spec_DrawInsOk.j1 k y0 y1 y2 y3 y4) (spec_DrawInsOk.j1 (k + 1) y0 y1 y2 y3 y4))
 | 0 => ⟨fun _ _ _ _ _ r h => by simp [spec_DrawInsOk.j0] at h,fun _ _ _ _ _ r h => by simp [spec_DrawInsOk.j1] at h⟩
 | k + 1 => by
  obtain ⟨ih0,ih1⟩:=spec_DrawInsOk.mono_l k
  refine ⟨?_,?_⟩
  ·intro y0 y1 y2 y3 y4
   unfold spec_DrawInsOk.j0
   repeat' first
   | (with_reducible exact ih0 _ _ _ _ _)
   | (with_reducible exact ih1 _ _ _ _ _)
   | (with_reducible exact spec_l6Rd_of.mono _ _ _ _)
   | (with_reducible exact spec_l6Rd_pick.mono _ _ _ _)
   | (with_reducible exact spec_l91Ins.mono _ _ _)
   | (with_reducible exact spec_l91Num.mono _ _ _ _)
   | (with_reducible exact LeO.refl _)
   | (with_reducible exact LeO.none _)
   | (with_reducible refine LeO.ite ?_ ?_)
   | (with_reducible refine LeO.bind ?_ (fun _ => ?_))
   | exact ih0 _ _ _ _ _
   | exact ih1 _ _ _ _ _
   | exact spec_l6Rd_of.mono _ _ _ _
   | exact spec_l6Rd_pick.mono _ _ _ _
   | exact spec_l91Ins.mono _ _ _
   | exact spec_l91Num.mono _ _ _ _
   | exact LeO.none _
   | refine LeO.ite ?_ ?_
   | refine LeO.bind ?_ (fun _ => ?_)
  ·intro y0 y1 y2 y3 y4
   unfold spec_DrawInsOk.j1
   repeat' first
   | (with_reducible exact ih0 _ _ _ _ _)
   | (with_reducible exact ih1 _ _ _ _ _)
   | (with_reducible exact spec_l6Rd_of.mono _ _ _ _)
   | (with_reducible exact spec_l6Rd_pick.mono _ _ _ _)
   | (with_reducible exact spec_l91Ins.mono _ _ _)
   | (with_reducible exact spec_l91Num.mono _ _ _ _)
   | (with_reducible exact LeO.refl _)
   | (with_reducible exact LeO.none _)
   | (with_reducible refine LeO.ite ?_ ?_)
   | (with_reducible refine LeO.bind ?_ (fun _ => ?_))
   | exact ih0 _ _ _ _ _
   | exact ih1 _ _ _ _ _
   | exact spec_l6Rd_of.mono _ _ _ _
   | exact spec_l6Rd_pick.mono _ _ _ _
   | exact spec_l91Ins.mono _ _ _
   | exact spec_l91Num.mono _ _ _ _
   | exact LeO.none _
   | refine LeO.ite ?_ ?_
   | refine LeO.bind ?_ (fun _ => ?_)
theorem spec_DrawInsOk.mono : ∀ a0 k,LeO (spec_DrawInsOk.f k a0) (spec_DrawInsOk.f (k + 1) a0):=by
 intro a0 k
 obtain ⟨ih0,ih1⟩:=spec_DrawInsOk.mono_l k
 unfold spec_DrawInsOk.f
 repeat' first
   | (with_reducible exact ih0 _ _ _ _ _)
   | (with_reducible exact ih1 _ _ _ _ _)
   | (with_reducible exact spec_l6Rd_of.mono _ _ _ _)
   | (with_reducible exact spec_l6Rd_pick.mono _ _ _ _)
   | (with_reducible exact spec_l91Ins.mono _ _ _)
   | (with_reducible exact spec_l91Num.mono _ _ _ _)
   | (with_reducible exact LeO.refl _)
   | (with_reducible exact LeO.none _)
   | (with_reducible refine LeO.ite ?_ ?_)
   | (with_reducible refine LeO.bind ?_ (fun _ => ?_))
   | exact ih0 _ _ _ _ _
   | exact ih1 _ _ _ _ _
   | exact spec_l6Rd_of.mono _ _ _ _
   | exact spec_l6Rd_pick.mono _ _ _ _
   | exact spec_l91Ins.mono _ _ _
   | exact spec_l91Num.mono _ _ _ _
   | exact LeO.none _
   | refine LeO.ite ?_ ?_
   | refine LeO.bind ?_ (fun _ => ?_)
set_option maxHeartbeats 8000000 in
set_option maxRecDepth 100000 in
theorem spec_DrawInsOk.calls (k : Nat) (A0 : Option Addr) (c0 : Nat) (l0 : List Int) (r1 : ByteArray) (r2 : Int) (r3 : Int) (w : World) (hr0 : Kd.C (Kd.int .u8) w A0 l0.length l0) (hc0 : l0.length ≤ c0) (h : spec_DrawInsOk.f k l0 = some (r1,r2,r3)) :
  Calls Tryd.prog 24 #[.slice A0 l0.length c0] w fun e w' => e = .returned (.agg #[.string r1,.int .i64 r2,.int .i64 r3]) ∧ Below w.heap.size w w':=by
 have hu26:=Tryd.underlying26
 have HR0:=Aside0.mk hr0
 have HC0:=Aside0.mk hc0
 clear hr0 hc0
 have HB:=Aside0.mk (Below.refl w.heap.size w)
 have H : ((spec_l6Open.f l0).bind fun bt215 => ((spec_l91Ins.f k bt215.1 bt215.2).bind fun bt218 => ((spec_l6Rd_pick.f k bt215.1 bt218.2.2.2 4).bind fun bt223 => (if bt223.1 = 0 then ((spec_l91Num.f k bt215.1 bt223.2 (([(-1),3,6,40,39,1000000,1000001,0,5] : List Int))).bind fun bt228 => (spec_DrawInsOk.j0 k bt215.1 bt228.2 bt218.1 bt228.1 bt218.2.2.1)) else (spec_DrawInsOk.j0 k bt215.1 bt223.2 bt218.1 bt218.2.1 bt218.2.2.1))))) = some (r1,r2,r3):=h
 clear h
 replace H:=Option.bind_eq_some_iff.mp H
 obtain ⟨⟨t215,t216⟩,A20,H⟩:=H
 replace H : ((spec_l91Ins.f k t215 t216).bind fun bt218 => ((spec_l6Rd_pick.f k t215 bt218.2.2.2 4).bind fun bt223 => (if bt223.1 = 0 then ((spec_l91Num.f k t215 bt223.2 (([(-1),3,6,40,39,1000000,1000001,0,5] : List Int))).bind fun bt228 => (spec_DrawInsOk.j0 k t215 bt228.2 bt218.1 bt228.1 bt218.2.2.1)) else (spec_DrawInsOk.j0 k t215 bt223.2 bt218.1 bt218.2.1 bt218.2.2.1)))) = some (r1,r2,r3):=H
 have A2:=Aside0.mk A20
 clear A20
 replace H:=Option.bind_eq_some_iff.mp H
 obtain ⟨⟨t218,t219,t220,t221⟩,A30,H⟩:=H
 replace H : ((spec_l6Rd_pick.f k t215 t221 4).bind fun bt223 => (if bt223.1 = 0 then ((spec_l91Num.f k t215 bt223.2 (([(-1),3,6,40,39,1000000,1000001,0,5] : List Int))).bind fun bt228 => (spec_DrawInsOk.j0 k t215 bt228.2 t218 bt228.1 t220)) else (spec_DrawInsOk.j0 k t215 bt223.2 t218 t219 t220))) = some (r1,r2,r3):=H
 have A3:=Aside0.mk A30
 clear A30
 replace H:=Option.bind_eq_some_iff.mp H
 obtain ⟨⟨t223,t224⟩,A40,H⟩:=H
 replace H : (if t223 = 0 then ((spec_l91Num.f k t215 t224 (([(-1),3,6,40,39,1000000,1000001,0,5] : List Int))).bind fun bt228 => (spec_DrawInsOk.j0 k t215 bt228.2 t218 bt228.1 t220)) else (spec_DrawInsOk.j0 k t215 t224 t218 t219 t220)) = some (r1,r2,r3):=H
 have A4:=Aside0.mk A40
 clear A40
 have HC5:=Aside0.mk H
 clear H
 go_enter Tryd.func24,Tryd.ntmps24
 go_upto_if 11 with (first | ((with_reducible refine gate_dst (N:=2) rfl ?_);refine Up.bx 2 26 #[.string (⟨#[]⟩ : ByteArray),.int .i64 0,.int .i64 0] ?_;intro gb214 hg w6 hbox hb;have n0_:=Up.BB HB hb;have n1_:=Aside0.mk (hbox);have n2_:=Up.gw hg HB;have n3_:=Up.gw hg HB;clear HB;have HB:=n0_;have BK214:=n1_;have GW214:=n2_;have GE214:=n3_;clear n0_ n1_ n2_ n3_ hb hbox hg) | ((with_reducible refine gate_callee (f:=40) rfl ?_);refine Up.gl (some 6) Tryd.func40 #[.slice A0 l0.length c0] ?_;(with_reducible refine (spec_l6Open.calls _ _ l0 t215 t216 w _ ?side1 ?side2 ?side3 A2.out).mono ?_);(case side1 => repeat (first | (with_reducible first | exact HB.out | apply below_alloc | apply pw_below_drewN | apply below_drew1 | refine below_set ?_ GE214.out) | exact HB.out));(case side2 => exact HR0.out);(case side3 => exact HC0.out);rintro e w7 ⟨g217,rfl,hi,hb,hb2⟩;refine ⟨_,rfl,?_⟩;have n0_:=Aside0.mk (blk_below (g:=gb214) (o:=.cells #[.string (⟨#[]⟩ : ByteArray),.int .i64 0,.int .i64 0] 26 (0,0)) (Up.Kup BK214) hb2);have n1_:=Aside0.mk (hb);have n2_:=Aside0.mk (hi);have n3_:=Aside0.mk (IsS70.ne_blk hi (blk_below (g:=gb214) (o:=.cells #[.string (⟨#[]⟩ : ByteArray),.int .i64 0,.int .i64 0] 26 (0,0)) (Up.Kup BK214) hb2) (by decide));have n4_:=Aside0.mk (Ne.symm (IsS70.ne_blk hi (blk_below (g:=gb214) (o:=.cells #[.string (⟨#[]⟩ : ByteArray),.int .i64 0,.int .i64 0] 26 (0,0)) (Up.Kup BK214) hb2) (by decide)));clear BK214 HB;have BK214:=n0_;have HB:=n1_;have HI217:=n2_;have NB217_214:=n3_;have NB214_217:=n4_;clear n0_ n1_ n2_ n3_ n4_;(try clear hb);(try clear hb2);(try clear hk);(try clear hi)) | ((with_reducible refine gate_callee (f:=41) rfl ?_);refine Up.gl (some 8) Tryd.func41 #[.pointer (some ⟨g217,0,none⟩)] ?_;(with_reducible refine (spec_l91Ins.calls k g217 t215 t216 t218 t219 t220 t221 w _ ?side1 ?side2 A3.out).mono ?_);(case side1 => repeat (first | (with_reducible first | exact HI217.out | apply IsS70.alloc | apply IsS70.drewN | apply IsS70.drew | apply IsS70.set_1 | refine IsS70.far ?_ NB217_214.out _) | exact HI217.out));(case side2 => repeat (first | (with_reducible first | exact HB.out | apply below_alloc | apply pw_below_drewN | apply below_drew1 | refine below_set ?_ (IsS70.ge HI217.out) | refine below_set ?_ GE214.out) | exact HB.out));rintro e w8 ⟨rfl,hi,hb,hk⟩;refine ⟨_,rfl,?_⟩;have n0_:=Aside0.mk (KeepBut.blk hk (g':=gb214) (o:=.cells #[.string (⟨#[]⟩ : ByteArray),.int .i64 0,.int .i64 0] 26 (0,0)) (Up.Kup BK214) NB214_217.out (by simp));have n1_:=Aside0.mk (hb);have n2_:=Aside0.mk (hi);clear BK214 HB HI217;have BK214:=n0_;have HB:=n1_;have HI217:=n2_;clear n0_ n1_ n2_;(try clear hb);(try clear hb2);(try clear hk);(try clear hi)) | ((with_reducible refine gate_dst (N:=4) rfl ?_);refine Up.bx 4 26 #[.string (⟨#[]⟩ : ByteArray),.int .i64 0,.int .i64 0] ?_;intro gb222 hg w9 hbox hb;have n0_:=Up.KB BK214 hb;have n1_:=Aside0.mk (IsS70.below (by repeat (first | (with_reducible first | exact HI217.out | apply IsS70.alloc | apply IsS70.drewN | apply IsS70.drew | apply IsS70.set_1 | refine IsS70.far ?_ NB217_214.out _) | exact HI217.out)) hb);have n2_:=Aside0.mk (below_step (by repeat (first | (with_reducible first | exact HB.out | apply below_alloc | apply pw_below_drewN | apply below_drew1 | refine below_set ?_ (IsS70.ge HI217.out) | refine below_set ?_ GE214.out) | exact HB.out)) hb);have n3_:=Aside0.mk (hbox);have n4_:=Aside0.mk ((by rw [hg];exact (below_size (by repeat (first | (with_reducible first | exact HB.out | apply below_alloc | apply pw_below_drewN | apply below_drew1 | refine below_set ?_ (IsS70.ge HI217.out) | refine below_set ?_ GE214.out) | exact HB.out))) : w.heap.size ≤ gb222));have n5_:=Aside0.mk ((by rw [hg];exact (below_size (by repeat (first | (with_reducible first | exact HB.out | apply below_alloc | apply pw_below_drewN | apply below_drew1 | refine below_set ?_ (IsS70.ge HI217.out) | refine below_set ?_ GE214.out) | exact HB.out))) : w.heap.size ≤ gb222));have n6_:=Up.nl hg BK214;have n7_:=Up.ng hg BK214;have n8_:=Aside0.mk ((by rw [hg];exact Nat.ne_of_lt (IsS70.lt (show IsS70 w _ g217 t215 t221 from by repeat (first | (with_reducible first | exact HI217.out | apply IsS70.alloc | apply IsS70.drewN | apply IsS70.drew | apply IsS70.set_1 | refine IsS70.far ?_ NB217_214.out _) | exact HI217.out))) : g217 ≠ gb222));have n9_:=Aside0.mk ((by rw [hg];exact Nat.ne_of_gt (IsS70.lt (show IsS70 w _ g217 t215 t221 from by repeat (first | (with_reducible first | exact HI217.out | apply IsS70.alloc | apply IsS70.drewN | apply IsS70.drew | apply IsS70.set_1 | refine IsS70.far ?_ NB217_214.out _) | exact HI217.out))) : gb222 ≠ g217));clear BK214 HI217 HB;have BK214:=n0_;have HI217:=n1_;have HB:=n2_;have BK222:=n3_;have GW222:=n4_;have GE222:=n5_;have NB214_222:=n6_;have NB222_214:=n7_;have NB217_222:=n8_;have NB222_217:=n9_;clear n0_ n1_ n2_ n3_ n4_ n5_ n6_ n7_ n8_ n9_ hb hbox hg;have hnb10:=NB222_214.out;have hnc10:=NB214_222.out;have hnb11:=NB222_217.out;have hnc11:=NB217_222.out;have hcz12_0:=Up.c0 BK222;have hcz12_1:=Up.c1 BK222;have hcz12_2:=Up.c2 BK222;have hfz12_0:=blk_frozen BK222.out 0;have hfz12_1:=blk_frozen BK222.out 1;have hfz12_2:=blk_frozen BK222.out 2) | ((with_reducible refine gate_callee (f:=42) rfl ?_);refine Up.gl (some 10) Tryd.func42 #[.pointer (some ⟨g217,0,none⟩),.int .i64 4] ?_;(with_reducible refine (spec_l6Rd_pick.calls k g217 t215 t221 4 t223 t224 w _ ?side1 ?side2 A4.out).mono ?_);(case side1 => repeat (first | (with_reducible first | exact HI217.out | apply IsS70.alloc | apply IsS70.drewN | apply IsS70.drew | apply IsS70.set_1 | refine IsS70.far ?_ NB217_214.out _ | refine IsS70.far ?_ NB217_222.out _) | exact HI217.out));(case side2 => repeat (first | (with_reducible first | exact HB.out | apply below_alloc | apply pw_below_drewN | apply below_drew1 | refine below_set ?_ (IsS70.ge HI217.out) | refine below_set ?_ GE214.out | refine below_set ?_ GE222.out) | exact HB.out));rintro e w13 ⟨rfl,hi,hb,hk⟩;refine ⟨_,rfl,?_⟩;have n0_:=Aside0.mk (KeepBut.blk hk (g':=gb214) (o:=.cells #[.string (⟨#[]⟩ : ByteArray),.int .i64 0,.int .i64 0] 26 (0,0)) (Up.Kx BK214) NB214_217.out (by simp));have n1_:=Aside0.mk (KeepBut.blk hk (g':=gb222) (o:=.cells #[.string t218,.int .i64 t219,.int .i64 t220] 26 (0,0)) (Up.Kx BK222) NB222_217.out (by simp));have n2_:=Aside0.mk (hb);have n3_:=Aside0.mk (hi);clear BK214 BK222 HB HI217;have BK214:=n0_;have BK222:=n1_;have HB:=n2_;have HI217:=n3_;clear n0_ n1_ n2_ n3_;(try clear hb);(try clear hb2);(try clear hk);(try clear hi)))
 (try simp only [Act.put,List.setIfInBounds_toArray,List.set_cons_zero,List.set_cons_succ])
 go_cut [] (fun wc => ∃ (kq : Nat) (x218001_4 : Int) (x223001_4 : Int),Aside0 (spec_DrawInsOk.j0 kq t215 x218001_4 t218 x223001_4 t220 = some (r1,r2,r3)) ∧ Aside0 (kq ≤ k) ∧ Aside0 (wc.heap[gb214]? = some (.cells #[.string (⟨#[]⟩ : ByteArray),.int .i64 0,.int .i64 0] 26 (0,0))) ∧ Aside0 (wc.heap[gb222]? = some (.cells #[.string t218,.int .i64 x223001_4,.int .i64 t220] 26 (0,0))) ∧ Aside0 (IsS70 w wc g217 t215 x218001_4) ∧ Aside0 (Below w.heap.size w wc))
 case first =>
  have H:=HC5.out
  clear HC5
  by_cases c14 : t223 = 0
  ·rw [if_pos c14] at H
   have c14b0 : (t223 == 0) = true:=beq_iff_eq.mpr c14
   have c14b1 : (t223 != 0) = false:=bne_eq_false_iff_eq.mpr c14
   clear c14
   (first | rw [c14b0] | (simp only [i64_w,i32_w];rw [c14b0]) | skip)
   obtain ⟨y225,hy225⟩ : ∃ y_ : List Int,y_ = (([(-1),3,6,40,39,1000000,1000001,0,5] : List Int)):=⟨_,rfl⟩
   replace H : ((spec_l91Num.f k t215 t224 y225).bind fun bt228 => (spec_DrawInsOk.j0 k t215 bt228.2 t218 bt228.1 t220)) = some (r1,r2,r3):=by first | (rw [hy225];with_reducible exact H) | (have H2_:=(Option.bind_some _ _).symm.trans H;rw [hy225];with_reducible exact H2_) | (have H2_:=(Option.bind_some _ _).symm.trans H;with_reducible exact H2_) | with_reducible exact H | (rw [hy225];exact H) | exact H
   have Ny225:=Aside0.mk hy225
   clear hy225
   replace H:=Option.bind_eq_some_iff.mp H
   obtain ⟨⟨t228,t229⟩,A150,H⟩:=H
   replace H : (spec_DrawInsOk.j0 k t215 t229 t218 t228 t220) = some (r1,r2,r3):=H
   have A15:=Aside0.mk A150
   clear A150
   have H':=Aside0.mk H
   clear H
   go_wp2_with (first | ((with_reducible refine gate_dst (N:=13) rfl ?_);refine Kd.R_lit (Kd.int .i64) _ 3 ?hg (N:=13) ?hd (xs:=([(-1),3,6,40,39,1000000,1000001,0,5] : List Int)) (inner:=[.int .i64 (-1),.int .i64 3,.int .i64 6,.int .i64 40,.int .i64 39,.int .i64 1000000,.int .i64 1000001,.int .i64 0,.int .i64 5]) (ok:=fun _ => True) (okp:=fun _ => True) ?hr ?hp (fun _ hk => hk) trivial (Below.refl _ _) (Nat.le_refl _) (by simp) ?_;(case hd => rfl);(case hg => rfl);(case hr => first | (go_simp;done) | (go_simp;rfl));(case hp => exact (Reps.one (show Kd.M (Kd.int .i64) _ _ _ (-1) [.int .i64 (-1)] from rfl) (Reps.one (show Kd.M (Kd.int .i64) _ _ _ 3 [.int .i64 3] from rfl) (Reps.one (show Kd.M (Kd.int .i64) _ _ _ 6 [.int .i64 6] from rfl) (Reps.one (show Kd.M (Kd.int .i64) _ _ _ 40 [.int .i64 40] from rfl) (Reps.one (show Kd.M (Kd.int .i64) _ _ _ 39 [.int .i64 39] from rfl) (Reps.one (show Kd.M (Kd.int .i64) _ _ _ 1000000 [.int .i64 1000000] from rfl) (Reps.one (show Kd.M (Kd.int .i64) _ _ _ 1000001 [.int .i64 1000001] from rfl) (Reps.one (show Kd.M (Kd.int .i64) _ _ _ 0 [.int .i64 0] from rfl) (Reps.one (show Kd.M (Kd.int .i64) _ _ _ 5 [.int .i64 5] from rfl) (Reps.none _ _)))))))))));intro v226 w16 ho17 hb hg_ hnew_;clear hg_ hnew_;(first | rw [← Ny225.out] at ho17 | (simp only [Int.reduceToNat] at ho17;rw [← Ny225.out] at ho17));have n0_:=Aside0.mk (Kd.R_lower ho17 (below_size (by repeat (first | (with_reducible first | exact HB.out | apply below_alloc | apply pw_below_drewN | apply below_drew1 | refine below_set ?_ (IsS70.ge HI217.out) | refine below_set ?_ GE214.out | refine below_set ?_ GE222.out) | exact HB.out))));have n1_:=Up.KB BK214 hb;have n2_:=Aside0.mk (IsS70.below (by repeat (first | (with_reducible first | exact HI217.out | apply IsS70.alloc | apply IsS70.drewN | apply IsS70.drew | apply IsS70.set_1 | refine IsS70.far ?_ NB217_214.out _ | refine IsS70.far ?_ NB217_222.out _) | exact HI217.out)) hb);have n3_:=Up.KB BK222 hb;have n4_:=Aside0.mk (below_step (by repeat (first | (with_reducible first | exact HB.out | apply below_alloc | apply pw_below_drewN | apply below_drew1 | refine below_set ?_ (IsS70.ge HI217.out) | refine below_set ?_ GE214.out | refine below_set ?_ GE222.out) | exact HB.out)) hb);clear BK214 HI217 BK222 HB;have HO227:=n0_;have BK214:=n1_;have HI217:=n2_;have BK222:=n3_;have HB:=n4_;clear n0_ n1_ n2_ n3_ n4_ hb ho17;obtain ⟨Ao18,co18,eo18⟩:=Kd.R_slice HO227.out;subst eo18) | ((with_reducible refine gate_callee (f:=43) rfl ?_);refine Up.gl (some 14) Tryd.func43 #[.pointer (some ⟨g217,0,none⟩),.slice Ao18 y225.length co18] ?_;(with_reducible refine (spec_l91Num.calls k g217 t215 t224 _ _ y225 t228 t229 w _ ?side1 ?side2 ?side3 ?side4 ?side5 A15.out).mono ?_);(case side1 => repeat (first | (with_reducible first | exact HI217.out | apply IsS70.alloc | apply IsS70.drewN | apply IsS70.drew | apply IsS70.set_1 | refine IsS70.far ?_ NB217_214.out _ | refine IsS70.far ?_ NB217_222.out _) | exact HI217.out));(case side2 => repeat (first | (with_reducible first | exact HB.out | apply below_alloc | apply pw_below_drewN | apply below_drew1 | refine below_set ?_ (IsS70.ge HI217.out) | refine below_set ?_ GE214.out | refine below_set ?_ GE222.out) | exact HB.out));(case side3 => repeat (first | exact (Kd.R_reads' HO227.out).2.2 | (with_reducible refine Kd.C_alloc ?_ _) | (with_reducible refine Kd.C_drewN ?_ _) | (with_reducible refine Kd.C_drew ?_)));(case side4 => exact (Kd.R_reads' HO227.out).2.1);(case side5 => exact far_slice (IsS70.own_ne HI217.out HO227.out (by decide)));rintro e w19 ⟨rfl,hi,hb,hk⟩;refine ⟨_,rfl,?_⟩;have n0_:=Aside0.mk (KeepBut.blk hk (g':=gb214) (o:=.cells #[.string (⟨#[]⟩ : ByteArray),.int .i64 0,.int .i64 0] 26 (0,0)) (Up.Kup BK214) NB214_217.out (by simp));have n1_:=Aside0.mk (KeepBut.blk hk (g':=gb222) (o:=.cells #[.string t218,.int .i64 t219,.int .i64 t220] 26 (0,0)) (Up.Kup BK222) NB222_217.out (by simp));have n2_:=Aside0.mk (Kd.R_mono (Kd.R_keep (IsS70.apart (show IsS70 w _ g217 t215 t224 from by repeat (first | (with_reducible first | exact HI217.out | apply IsS70.alloc | apply IsS70.drewN | apply IsS70.drew | apply IsS70.set_1 | refine IsS70.far ?_ NB217_214.out _ | refine IsS70.far ?_ NB217_222.out _) | exact HI217.out)) (Up.Rup HO227) (by decide)) hk (fun _ h => h.2)) (fun _ h => h.1));have n3_:=Aside0.mk (hb);have n4_:=Aside0.mk (hi);clear BK214 BK222 HO227 HB HI217;have BK214:=n0_;have BK222:=n1_;have HO227:=n2_;have HB:=n3_;have HI217:=n4_;clear n0_ n1_ n2_ n3_ n4_;(try clear hb);(try clear hb2);(try clear hk);(try clear hi);have hnb20:=NB222_214.out;have hnc20:=NB214_222.out;have hnb21:=NB222_217.out;have hnc21:=NB217_222.out;have hcz22_0:=Up.c0 BK222;have hcz22_1:=Up.c1 BK222;have hcz22_2:=Up.c2 BK222;have hfz22_0:=blk_frozen BK222.out 0;have hfz22_1:=blk_frozen BK222.out 1;have hfz22_2:=blk_frozen BK222.out 2))
   go_meet
   case rel => exact ⟨_,(t229),(t228),H',⟨by first | omega | exact Nat.le_refl _⟩,⟨by (with_reducible repeat (first | refine blk_drewN ?_ _ | refine blk_drew ?_ | refine blk_alloc ?_ _));refine blk_far ?_ NB214_222.out _;(with_reducible repeat (first | refine blk_drewN ?_ _ | refine blk_drew ?_ | refine blk_alloc ?_ _));exact BK214.out⟩,⟨by (with_reducible repeat (first | refine blk_drewN ?_ _ | refine blk_drew ?_ | refine blk_alloc ?_ _));refine blk_put (cs:=#[.string t218,.int .i64 t219,.int .i64 t220]) ?_ 1 _ rfl;(with_reducible repeat (first | refine blk_drewN ?_ _ | refine blk_drew ?_ | refine blk_alloc ?_ _));exact BK222.out⟩,⟨by repeat (first | (with_reducible first | exact HI217.out | apply IsS70.alloc | apply IsS70.drewN | apply IsS70.drew | apply IsS70.set_1 | refine IsS70.far ?_ NB217_214.out _ | refine IsS70.far ?_ NB217_222.out _) | exact HI217.out)⟩,⟨by repeat (first | (with_reducible first | exact HB.out | apply below_alloc | apply pw_below_drewN | apply below_drew1 | refine below_set ?_ (IsS70.ge HI217.out) | refine below_set ?_ GE214.out | refine below_set ?_ GE222.out) | exact HB.out)⟩⟩
  ·rw [if_neg c14] at H
   have c14b0 : (t223 == 0) = false:=beq_eq_false_iff_ne.mpr c14
   have c14b1 : (t223 != 0) = true:=bne_iff_ne.mpr c14
   (first | rw [c14b0] | (simp only [i64_w,i32_w];rw [c14b0]) | skip)
   have H':=Aside0.mk H
   clear H
   go_wp2
   go_meet
   case rel => exact ⟨_,(t224),(t219),H',⟨by first | omega | exact Nat.le_refl _⟩,⟨by (with_reducible repeat (first | refine blk_drewN ?_ _ | refine blk_drew ?_ | refine blk_alloc ?_ _));exact BK214.out⟩,⟨by (with_reducible repeat (first | refine blk_drewN ?_ _ | refine blk_drew ?_ | refine blk_alloc ?_ _));exact BK222.out⟩,⟨by repeat (first | (with_reducible first | exact HI217.out | apply IsS70.alloc | apply IsS70.drewN | apply IsS70.drew | apply IsS70.set_1 | refine IsS70.far ?_ NB217_214.out _ | refine IsS70.far ?_ NB217_222.out _) | exact HI217.out)⟩,⟨by repeat (first | (with_reducible first | exact HB.out | apply below_alloc | apply pw_below_drewN | apply below_drew1 | refine below_set ?_ (IsS70.ge HI217.out) | refine below_set ?_ GE214.out | refine below_set ?_ GE222.out) | exact HB.out)⟩⟩
 case rest =>
  clear HC5
  try clear c1
  try clear c2
  try clear p2
  try clear c4
  try clear c10
  try clear c11
  try clear c14
  try clear c14b0
  try clear c14b1
  try clear c20
  try clear c21
  try clear hcz12_0
  try clear hcz12_1
  try clear hcz12_2
  try clear hcz22_0
  try clear hcz22_1
  try clear hcz22_2
  try clear hfz12_0
  try clear hfz12_1
  try clear hfz12_2
  try clear hfz22_0
  try clear hfz22_1
  try clear hfz22_2
  obtain ⟨kq,x218001_4,x223001_4,HA,HJ4,BK214,BK222,HI217,HB⟩:=hcut
  cases kq with
  | zero => exact absurd HA.out (by simp [spec_DrawInsOk.j0])
  | succ kj4 =>
   have H:=HA.out
   clear HA
   simp only [spec_DrawInsOk.j0] at H
   replace H:=Option.bind_eq_some_iff.mp H
   obtain ⟨⟨t230,t231⟩,A230,H⟩:=H
   replace H : (if t230 = 0 then ((spec_l91Num.f kj4 t215 t231 (([(-1),1,4,3] : List Int))).bind fun bt235 => (spec_DrawInsOk.j1 kj4 t215 bt235.2 t218 x223001_4 bt235.1)) else (spec_DrawInsOk.j1 kj4 t215 t231 t218 x223001_4 t220)) = some (r1,r2,r3):=H
   have A23:=Aside0.mk A230
   clear A230
   have HC24:=Aside0.mk H
   clear H
   go_upto_if 18 with (first | ((with_reducible refine gate_callee (f:=42) rfl ?_);refine Up.gl (some 17) Tryd.func42 #[.pointer (some ⟨g217,0,none⟩),.int .i64 6] ?_;(with_reducible refine (spec_l6Rd_pick.calls kj4 g217 t215 x218001_4 6 t230 t231 w _ ?side1 ?side2 A23.out).mono ?_);(case side1 => repeat (first | (with_reducible first | exact HI217.out | apply IsS70.alloc | apply IsS70.drewN | apply IsS70.drew | apply IsS70.set_1 | refine IsS70.far ?_ NB217_214.out _ | refine IsS70.far ?_ NB217_222.out _) | exact HI217.out));(case side2 => repeat (first | (with_reducible first | exact HB.out | apply below_alloc | apply pw_below_drewN | apply below_drew1 | refine below_set ?_ (IsS70.ge HI217.out) | refine below_set ?_ GE214.out | refine below_set ?_ GE222.out) | exact HB.out));rintro e w25 ⟨rfl,hi,hb,hk⟩;refine ⟨_,rfl,?_⟩;have n0_:=Aside0.mk (KeepBut.blk hk (g':=gb214) (o:=.cells #[.string (⟨#[]⟩ : ByteArray),.int .i64 0,.int .i64 0] 26 (0,0)) (Up.Kup BK214) NB214_217.out (by simp));have n1_:=Aside0.mk (KeepBut.blk hk (g':=gb222) (o:=.cells #[.string t218,.int .i64 x223001_4,.int .i64 t220] 26 (0,0)) (Up.Kup BK222) NB222_217.out (by simp));have n2_:=Aside0.mk (hb);have n3_:=Aside0.mk (hi);clear BK214 BK222 HB HI217;have BK214:=n0_;have BK222:=n1_;have HB:=n2_;have HI217:=n3_;clear n0_ n1_ n2_ n3_;(try clear hb);(try clear hb2);(try clear hk);(try clear hi)))
   (try simp only [Act.put,List.setIfInBounds_toArray,List.set_cons_zero,List.set_cons_succ])
   go_cut [] (fun wc => ∃ (kq : Nat) (x218001_23 : Int) (x223002_23 : Int),Aside0 (spec_DrawInsOk.j1 kq t215 x218001_23 t218 x223001_4 x223002_23 = some (r1,r2,r3)) ∧ Aside0 (kq ≤ kj4) ∧ Aside0 (wc.heap[gb214]? = some (.cells #[.string (⟨#[]⟩ : ByteArray),.int .i64 0,.int .i64 0] 26 (0,0))) ∧ Aside0 (wc.heap[gb222]? = some (.cells #[.string t218,.int .i64 x223001_4,.int .i64 x223002_23] 26 (0,0))) ∧ Aside0 (IsS70 w wc g217 t215 x218001_23) ∧ Aside0 (Below w.heap.size w wc))
   case first =>
    have H:=HC24.out
    clear HC24
    by_cases c26 : t230 = 0
    ·rw [if_pos c26] at H
     have c26b0 : (t230 == 0) = true:=beq_iff_eq.mpr c26
     have c26b1 : (t230 != 0) = false:=bne_eq_false_iff_eq.mpr c26
     clear c26
     (first | rw [c26b0] | (simp only [i64_w,i32_w];rw [c26b0]) | skip)
     obtain ⟨y232,hy232⟩ : ∃ y_ : List Int,y_ = (([(-1),1,4,3] : List Int)):=⟨_,rfl⟩
     replace H : ((spec_l91Num.f kj4 t215 t231 y232).bind fun bt235 => (spec_DrawInsOk.j1 kj4 t215 bt235.2 t218 x223001_4 bt235.1)) = some (r1,r2,r3):=by first | (rw [hy232];with_reducible exact H) | (have H2_:=(Option.bind_some _ _).symm.trans H;rw [hy232];with_reducible exact H2_) | (have H2_:=(Option.bind_some _ _).symm.trans H;with_reducible exact H2_) | with_reducible exact H | (rw [hy232];exact H) | exact H
     have Ny232:=Aside0.mk hy232
     clear hy232
     replace H:=Option.bind_eq_some_iff.mp H
     obtain ⟨⟨t235,t236⟩,A270,H⟩:=H
     replace H : (spec_DrawInsOk.j1 kj4 t215 t236 t218 x223001_4 t235) = some (r1,r2,r3):=H
     have A27:=Aside0.mk A270
     clear A270
     have H':=Aside0.mk H
     clear H
     go_wp2_with (first | ((with_reducible refine gate_dst (N:=20) rfl ?_);refine Kd.R_lit (Kd.int .i64) _ 3 ?hg (N:=20) ?hd (xs:=([(-1),1,4,3] : List Int)) (inner:=[.int .i64 (-1),.int .i64 1,.int .i64 4,.int .i64 3]) (ok:=fun _ => True) (okp:=fun _ => True) ?hr ?hp (fun _ hk => hk) trivial (Below.refl _ _) (Nat.le_refl _) (by simp) ?_;(case hd => rfl);(case hg => rfl);(case hr => first | (go_simp;done) | (go_simp;rfl));(case hp => exact (Reps.one (show Kd.M (Kd.int .i64) _ _ _ (-1) [.int .i64 (-1)] from rfl) (Reps.one (show Kd.M (Kd.int .i64) _ _ _ 1 [.int .i64 1] from rfl) (Reps.one (show Kd.M (Kd.int .i64) _ _ _ 4 [.int .i64 4] from rfl) (Reps.one (show Kd.M (Kd.int .i64) _ _ _ 3 [.int .i64 3] from rfl) (Reps.none _ _))))));intro v233 w28 ho29 hb hg_ hnew_;clear hg_ hnew_;(first | rw [← Ny232.out] at ho29 | (simp only [Int.reduceToNat] at ho29;rw [← Ny232.out] at ho29));have n0_:=Aside0.mk (Kd.R_lower ho29 (below_size (by repeat (first | (with_reducible first | exact HB.out | apply below_alloc | apply pw_below_drewN | apply below_drew1 | refine below_set ?_ (IsS70.ge HI217.out) | refine below_set ?_ GE214.out | refine below_set ?_ GE222.out) | exact HB.out))));have n1_:=Up.KB BK214 hb;have n2_:=Up.KB BK222 hb;have n3_:=Aside0.mk (IsS70.below (by repeat (first | (with_reducible first | exact HI217.out | apply IsS70.alloc | apply IsS70.drewN | apply IsS70.drew | apply IsS70.set_1 | refine IsS70.far ?_ NB217_214.out _ | refine IsS70.far ?_ NB217_222.out _) | exact HI217.out)) hb);have n4_:=Aside0.mk (below_step (by repeat (first | (with_reducible first | exact HB.out | apply below_alloc | apply pw_below_drewN | apply below_drew1 | refine below_set ?_ (IsS70.ge HI217.out) | refine below_set ?_ GE214.out | refine below_set ?_ GE222.out) | exact HB.out)) hb);clear BK214 BK222 HI217 HB;have HO234:=n0_;have BK214:=n1_;have BK222:=n2_;have HI217:=n3_;have HB:=n4_;clear n0_ n1_ n2_ n3_ n4_ hb ho29;obtain ⟨Ao30,co30,eo30⟩:=Kd.R_slice HO234.out;subst eo30) | ((with_reducible refine gate_callee (f:=43) rfl ?_);refine Up.gl (some 21) Tryd.func43 #[.pointer (some ⟨g217,0,none⟩),.slice Ao30 y232.length co30] ?_;(with_reducible refine (spec_l91Num.calls kj4 g217 t215 t231 _ _ y232 t235 t236 w _ ?side1 ?side2 ?side3 ?side4 ?side5 A27.out).mono ?_);(case side1 => repeat (first | (with_reducible first | exact HI217.out | apply IsS70.alloc | apply IsS70.drewN | apply IsS70.drew | apply IsS70.set_1 | refine IsS70.far ?_ NB217_214.out _ | refine IsS70.far ?_ NB217_222.out _) | exact HI217.out));(case side2 => repeat (first | (with_reducible first | exact HB.out | apply below_alloc | apply pw_below_drewN | apply below_drew1 | refine below_set ?_ (IsS70.ge HI217.out) | refine below_set ?_ GE214.out | refine below_set ?_ GE222.out) | exact HB.out));(case side3 => repeat (first | exact (Kd.R_reads' HO234.out).2.2 | (with_reducible refine Kd.C_alloc ?_ _) | (with_reducible refine Kd.C_drewN ?_ _) | (with_reducible refine Kd.C_drew ?_)));(case side4 => exact (Kd.R_reads' HO234.out).2.1);(case side5 => exact far_slice (IsS70.own_ne HI217.out HO234.out (by decide)));rintro e w31 ⟨rfl,hi,hb,hk⟩;refine ⟨_,rfl,?_⟩;have n0_:=Aside0.mk (KeepBut.blk hk (g':=gb214) (o:=.cells #[.string (⟨#[]⟩ : ByteArray),.int .i64 0,.int .i64 0] 26 (0,0)) (Up.Kup BK214) NB214_217.out (by simp));have n1_:=Aside0.mk (KeepBut.blk hk (g':=gb222) (o:=.cells #[.string t218,.int .i64 x223001_4,.int .i64 t220] 26 (0,0)) (Up.Kup BK222) NB222_217.out (by simp));have n2_:=Aside0.mk (Kd.R_mono (Kd.R_keep (IsS70.apart (show IsS70 w _ g217 t215 t231 from by repeat (first | (with_reducible first | exact HI217.out | apply IsS70.alloc | apply IsS70.drewN | apply IsS70.drew | apply IsS70.set_1 | refine IsS70.far ?_ NB217_214.out _ | refine IsS70.far ?_ NB217_222.out _) | exact HI217.out)) (Up.Rup HO234) (by decide)) hk (fun _ h => h.2)) (fun _ h => h.1));have n3_:=Aside0.mk (hb);have n4_:=Aside0.mk (hi);clear BK214 BK222 HO234 HB HI217;have BK214:=n0_;have BK222:=n1_;have HO234:=n2_;have HB:=n3_;have HI217:=n4_;clear n0_ n1_ n2_ n3_ n4_;(try clear hb);(try clear hb2);(try clear hk);(try clear hi);have hnb32:=NB222_214.out;have hnc32:=NB214_222.out;have hnb33:=NB222_217.out;have hnc33:=NB217_222.out;have hcz34_0:=Up.c0 BK222;have hcz34_1:=Up.c1 BK222;have hcz34_2:=Up.c2 BK222;have hfz34_0:=blk_frozen BK222.out 0;have hfz34_1:=blk_frozen BK222.out 1;have hfz34_2:=blk_frozen BK222.out 2))
     go_meet
     case rel => exact ⟨_,(t236),(t235),H',⟨by have:=HJ4.out;first | omega | exact Nat.le_refl _⟩,⟨by (with_reducible repeat (first | refine blk_drewN ?_ _ | refine blk_drew ?_ | refine blk_alloc ?_ _));refine blk_far ?_ NB214_222.out _;(with_reducible repeat (first | refine blk_drewN ?_ _ | refine blk_drew ?_ | refine blk_alloc ?_ _));exact BK214.out⟩,⟨by (with_reducible repeat (first | refine blk_drewN ?_ _ | refine blk_drew ?_ | refine blk_alloc ?_ _));refine blk_put (cs:=#[.string t218,.int .i64 x223001_4,.int .i64 t220]) ?_ 2 _ rfl;(with_reducible repeat (first | refine blk_drewN ?_ _ | refine blk_drew ?_ | refine blk_alloc ?_ _));exact BK222.out⟩,⟨by repeat (first | (with_reducible first | exact HI217.out | apply IsS70.alloc | apply IsS70.drewN | apply IsS70.drew | apply IsS70.set_1 | refine IsS70.far ?_ NB217_214.out _ | refine IsS70.far ?_ NB217_222.out _) | exact HI217.out)⟩,⟨by repeat (first | (with_reducible first | exact HB.out | apply below_alloc | apply pw_below_drewN | apply below_drew1 | refine below_set ?_ (IsS70.ge HI217.out) | refine below_set ?_ GE214.out | refine below_set ?_ GE222.out) | exact HB.out)⟩⟩
    ·rw [if_neg c26] at H
     have c26b0 : (t230 == 0) = false:=beq_eq_false_iff_ne.mpr c26
     have c26b1 : (t230 != 0) = true:=bne_iff_ne.mpr c26
     (first | rw [c26b0] | (simp only [i64_w,i32_w];rw [c26b0]) | skip)
     have H':=Aside0.mk H
     clear H
     go_wp2
     go_meet
     case rel => exact ⟨_,(t231),(t220),H',⟨by have:=HJ4.out;first | omega | exact Nat.le_refl _⟩,⟨by (with_reducible repeat (first | refine blk_drewN ?_ _ | refine blk_drew ?_ | refine blk_alloc ?_ _));exact BK214.out⟩,⟨by (with_reducible repeat (first | refine blk_drewN ?_ _ | refine blk_drew ?_ | refine blk_alloc ?_ _));exact BK222.out⟩,⟨by repeat (first | (with_reducible first | exact HI217.out | apply IsS70.alloc | apply IsS70.drewN | apply IsS70.drew | apply IsS70.set_1 | refine IsS70.far ?_ NB217_214.out _ | refine IsS70.far ?_ NB217_222.out _) | exact HI217.out)⟩,⟨by repeat (first | (with_reducible first | exact HB.out | apply below_alloc | apply pw_below_drewN | apply below_drew1 | refine below_set ?_ (IsS70.ge HI217.out) | refine below_set ?_ GE214.out | refine below_set ?_ GE222.out) | exact HB.out)⟩⟩
   case rest =>
    clear HC24
    try clear c1
    try clear c2
    try clear p2
    try clear c3
    try clear c4
    try clear c10
    try clear c11
    try clear c14
    try clear c14b0
    try clear c14b1
    try clear c20
    try clear c21
    try clear c24
    try clear c26
    try clear c26b0
    try clear c26b1
    try clear c32
    try clear c33
    try clear hcz12_0
    try clear hcz12_1
    try clear hcz12_2
    try clear hcz22_0
    try clear hcz22_1
    try clear hcz22_2
    try clear hcz34_0
    try clear hcz34_1
    try clear hcz34_2
    try clear hfz12_0
    try clear hfz12_1
    try clear hfz12_2
    try clear hfz22_0
    try clear hfz22_1
    try clear hfz22_2
    try clear hfz34_0
    try clear hfz34_1
    try clear hfz34_2
    try clear p2
    obtain ⟨kq,x218001_23,x223002_23,HA,HJ23,BK214,BK222,HI217,HB⟩:=hcut
    cases kq with
    | zero => exact absurd HA.out (by simp [spec_DrawInsOk.j1])
    | succ kj23 =>
     have H:=HA.out
     clear HA
     simp only [spec_DrawInsOk.j1] at H
     replace H:=Option.bind_eq_some_iff.mp H
     obtain ⟨⟨t237,t238⟩,A350,H⟩:=H
     replace H : (if t237 = 0 then ((spec_l6Rd_of.f kj23 t215 t238 (([(⟨#[]⟩ : ByteArray),(⟨#[78,117,109]⟩ : ByteArray),(⟨#[103,111,116,111]⟩ : ByteArray)] : List ByteArray))).bind fun bt242 => (some (bt242.1,x223001_4,x223002_23))) else (some (t218,x223001_4,x223002_23))) = some (r1,r2,r3):=H
     have A35:=Aside0.mk A350
     clear A350
     by_cases c36 : t237 = 0
     ·rw [if_pos c36] at H
      have c36b0 : (t237 == 0) = true:=beq_iff_eq.mpr c36
      have c36b1 : (t237 != 0) = false:=bne_eq_false_iff_eq.mpr c36
      clear c36
      obtain ⟨y239,hy239⟩ : ∃ y_ : List ByteArray,y_ = (([(⟨#[]⟩ : ByteArray),(⟨#[78,117,109]⟩ : ByteArray),(⟨#[103,111,116,111]⟩ : ByteArray)] : List ByteArray)):=⟨_,rfl⟩
      replace H : ((spec_l6Rd_of.f kj23 t215 t238 y239).bind fun bt242 => (some (bt242.1,x223001_4,x223002_23))) = some (r1,r2,r3):=by first | (rw [hy239];with_reducible exact H) | (have H2_:=(Option.bind_some _ _).symm.trans H;rw [hy239];with_reducible exact H2_) | (have H2_:=(Option.bind_some _ _).symm.trans H;with_reducible exact H2_) | with_reducible exact H | (rw [hy239];exact H) | exact H
      have Ny239:=Aside0.mk hy239
      clear hy239
      replace H:=Option.bind_eq_some_iff.mp H
      obtain ⟨⟨t242,t243⟩,A370,H⟩:=H
      replace H : (some (t242,x223001_4,x223002_23)) = some (r1,r2,r3):=H
      have A37:=Aside0.mk A370
      clear A370
      simp only [Option.some.injEq,Prod.mk.injEq] at H
      obtain ⟨rfl,rfl,rfl⟩:=H
      go_wp2_with (first | ((with_reducible refine gate_callee (f:=42) rfl ?_);refine Up.gl (some 24) Tryd.func42 #[.pointer (some ⟨g217,0,none⟩),.int .i64 15] ?_;(with_reducible refine (spec_l6Rd_pick.calls kj23 g217 t215 x218001_23 15 t237 t238 w _ ?side1 ?side2 A35.out).mono ?_);(case side1 => repeat (first | (with_reducible first | exact HI217.out | apply IsS70.alloc | apply IsS70.drewN | apply IsS70.drew | apply IsS70.set_1 | refine IsS70.far ?_ NB217_214.out _ | refine IsS70.far ?_ NB217_222.out _) | exact HI217.out));(case side2 => repeat (first | (with_reducible first | exact HB.out | apply below_alloc | apply pw_below_drewN | apply below_drew1 | refine below_set ?_ (IsS70.ge HI217.out) | refine below_set ?_ GE214.out | refine below_set ?_ GE222.out) | exact HB.out));rintro e w38 ⟨rfl,hi,hb,hk⟩;refine ⟨_,rfl,?_⟩;have n0_:=Aside0.mk (KeepBut.blk hk (g':=gb214) (o:=.cells #[.string (⟨#[]⟩ : ByteArray),.int .i64 0,.int .i64 0] 26 (0,0)) (Up.Kup BK214) NB214_217.out (by simp));have n1_:=Aside0.mk (KeepBut.blk hk (g':=gb222) (o:=.cells #[.string t218,.int .i64 x223001_4,.int .i64 x223002_23] 26 (0,0)) (Up.Kup BK222) NB222_217.out (by simp));have n2_:=Aside0.mk (hb);have n3_:=Aside0.mk (hi);clear BK214 BK222 HB HI217;have BK214:=n0_;have BK222:=n1_;have HB:=n2_;have HI217:=n3_;clear n0_ n1_ n2_ n3_;(try clear hb);(try clear hb2);(try clear hk);(try clear hi)) | ((with_reducible refine gate_dst (N:=27) rfl ?_);refine Kd.R_lit Kd.string _ 9 ?hg (N:=27) ?hd (xs:=([(⟨#[]⟩ : ByteArray),(⟨#[78,117,109]⟩ : ByteArray),(⟨#[103,111,116,111]⟩ : ByteArray)] : List ByteArray)) (inner:=[.string (⟨#[]⟩ : ByteArray),.string (⟨#[78,117,109]⟩ : ByteArray),.string (⟨#[103,111,116,111]⟩ : ByteArray)]) (ok:=fun _ => True) (okp:=fun _ => True) ?hr ?hp (fun _ hk => hk) trivial (Below.refl _ _) (Nat.le_refl _) (by simp) ?_;(case hd => rfl);(case hg => rfl);(case hr => first | (go_simp;done) | (go_simp;rfl));(case hp => exact (Reps.one (show Kd.M Kd.string _ _ _ (⟨#[]⟩ : ByteArray) [.string (⟨#[]⟩ : ByteArray)] from rfl) (Reps.one (show Kd.M Kd.string _ _ _ (⟨#[78,117,109]⟩ : ByteArray) [.string (⟨#[78,117,109]⟩ : ByteArray)] from rfl) (Reps.one (show Kd.M Kd.string _ _ _ (⟨#[103,111,116,111]⟩ : ByteArray) [.string (⟨#[103,111,116,111]⟩ : ByteArray)] from rfl) (Reps.none _ _)))));intro v240 w39 ho40 hb hg_ hnew_;clear hg_ hnew_;(first | rw [← Ny239.out] at ho40 | (simp only [Int.reduceToNat] at ho40;rw [← Ny239.out] at ho40));have n0_:=Aside0.mk (Kd.R_lower ho40 (below_size (by repeat (first | (with_reducible first | exact HB.out | apply below_alloc | apply pw_below_drewN | apply below_drew1 | refine below_set ?_ (IsS70.ge HI217.out) | refine below_set ?_ GE214.out | refine below_set ?_ GE222.out) | exact HB.out))));have n1_:=Up.KB BK214 hb;have n2_:=Up.KB BK222 hb;have n3_:=Aside0.mk (IsS70.below (by repeat (first | (with_reducible first | exact HI217.out | apply IsS70.alloc | apply IsS70.drewN | apply IsS70.drew | apply IsS70.set_1 | refine IsS70.far ?_ NB217_214.out _ | refine IsS70.far ?_ NB217_222.out _) | exact HI217.out)) hb);have n4_:=Aside0.mk (below_step (by repeat (first | (with_reducible first | exact HB.out | apply below_alloc | apply pw_below_drewN | apply below_drew1 | refine below_set ?_ (IsS70.ge HI217.out) | refine below_set ?_ GE214.out | refine below_set ?_ GE222.out) | exact HB.out)) hb);clear BK214 BK222 HI217 HB;have HO241:=n0_;have BK214:=n1_;have BK222:=n2_;have HI217:=n3_;have HB:=n4_;clear n0_ n1_ n2_ n3_ n4_ hb ho40;obtain ⟨Ao41,co41,eo41⟩:=Kd.R_slice HO241.out;subst eo41) | ((with_reducible refine gate_callee (f:=44) rfl ?_);refine Up.gl (some 28) Tryd.func44 #[.pointer (some ⟨g217,0,none⟩),.slice Ao41 y239.length co41] ?_;(with_reducible refine (spec_l6Rd_of.calls kj23 g217 t215 t238 _ _ y239 t242 t243 w _ ?side1 ?side2 ?side3 ?side4 ?side5 A37.out).mono ?_);(case side1 => repeat (first | (with_reducible first | exact HI217.out | apply IsS70.alloc | apply IsS70.drewN | apply IsS70.drew | apply IsS70.set_1 | refine IsS70.far ?_ NB217_214.out _ | refine IsS70.far ?_ NB217_222.out _) | exact HI217.out));(case side2 => repeat (first | (with_reducible first | exact HB.out | apply below_alloc | apply pw_below_drewN | apply below_drew1 | refine below_set ?_ (IsS70.ge HI217.out) | refine below_set ?_ GE214.out | refine below_set ?_ GE222.out) | exact HB.out));(case side3 => repeat (first | exact (Kd.R_reads' HO241.out).2.2 | (with_reducible refine Kd.C_alloc ?_ _) | (with_reducible refine Kd.C_drewN ?_ _) | (with_reducible refine Kd.C_drew ?_)));(case side4 => exact (Kd.R_reads' HO241.out).2.1);(case side5 => exact far_slice (IsS70.own_ne HI217.out HO241.out (by decide)));rintro e w42 ⟨rfl,hi,hb,hk⟩;refine ⟨_,rfl,?_⟩;have n0_:=Aside0.mk (KeepBut.blk hk (g':=gb214) (o:=.cells #[.string (⟨#[]⟩ : ByteArray),.int .i64 0,.int .i64 0] 26 (0,0)) (Up.Kup BK214) NB214_217.out (by simp));have n1_:=Aside0.mk (KeepBut.blk hk (g':=gb222) (o:=.cells #[.string t218,.int .i64 x223001_4,.int .i64 x223002_23] 26 (0,0)) (Up.Kup BK222) NB222_217.out (by simp));have n2_:=Aside0.mk (Kd.R_mono (Kd.R_keep (IsS70.apart (show IsS70 w _ g217 t215 t238 from by repeat (first | (with_reducible first | exact HI217.out | apply IsS70.alloc | apply IsS70.drewN | apply IsS70.drew | apply IsS70.set_1 | refine IsS70.far ?_ NB217_214.out _ | refine IsS70.far ?_ NB217_222.out _) | exact HI217.out)) (Up.Rup HO241) (by decide)) hk (fun _ h => h.2)) (fun _ h => h.1));have n3_:=Aside0.mk (hb);have n4_:=Aside0.mk (hi);clear BK214 BK222 HO241 HB HI217;have BK214:=n0_;have BK222:=n1_;have HO241:=n2_;have HB:=n3_;have HI217:=n4_;clear n0_ n1_ n2_ n3_ n4_;(try clear hb);(try clear hb2);(try clear hk);(try clear hi);have hnb43:=NB222_214.out;have hnc43:=NB214_222.out;have hnb44:=NB222_217.out;have hnc44:=NB217_222.out;have hcz45_0:=Up.c0 BK222;have hcz45_1:=Up.c1 BK222;have hcz45_2:=Up.c2 BK222;have hfz45_0:=blk_frozen BK222.out 0;have hfz45_1:=blk_frozen BK222.out 1;have hfz45_2:=blk_frozen BK222.out 2;have hnb46:=NB214_217.out;have hnc46:=NB217_214.out;have hcz47_0:=Up.c0 BK214;have hcz47_1:=Up.c1 BK214;have hcz47_2:=Up.c2 BK214;have hfz47_0:=blk_frozen BK214.out 0;have hfz47_1:=blk_frozen BK214.out 1;have hfz47_2:=blk_frozen BK214.out 2))
      refine bodyPost_ret (results_cell_row rfl _ _ gb214 26 #[.string t242,.int .i64 x223001_4,.int .i64 x223002_23] (0,0) _ rfl (Up.Kx BK214) Tryd.underlying26 rfl (by kernel_rfl)) rfl ?_
      exact ⟨by first | rfl | (simp [errW_none,errW_some] <;> rfl) | (simp [*,errW_none,errW_some] <;> rfl),by repeat (first | (with_reducible first | exact HB.out | apply below_alloc | apply pw_below_drewN | apply below_drew1 | refine below_set ?_ (IsS70.ge HI217.out) | refine below_set ?_ GE214.out | refine below_set ?_ GE222.out) | exact HB.out)⟩
     ·rw [if_neg c36] at H
      have c36b0 : (t237 == 0) = false:=beq_eq_false_iff_ne.mpr c36
      have c36b1 : (t237 != 0) = true:=bne_iff_ne.mpr c36
      simp only [Option.some.injEq,Prod.mk.injEq] at H
      obtain ⟨rfl,rfl,rfl⟩:=H
      go_wp2_with (first | ((with_reducible refine gate_callee (f:=42) rfl ?_);refine Up.gl (some 24) Tryd.func42 #[.pointer (some ⟨g217,0,none⟩),.int .i64 15] ?_;(with_reducible refine (spec_l6Rd_pick.calls kj23 g217 t215 x218001_23 15 t237 t238 w _ ?side1 ?side2 A35.out).mono ?_);(case side1 => repeat (first | (with_reducible first | exact HI217.out | apply IsS70.alloc | apply IsS70.drewN | apply IsS70.drew | apply IsS70.set_1 | refine IsS70.far ?_ NB217_214.out _ | refine IsS70.far ?_ NB217_222.out _) | exact HI217.out));(case side2 => repeat (first | (with_reducible first | exact HB.out | apply below_alloc | apply pw_below_drewN | apply below_drew1 | refine below_set ?_ (IsS70.ge HI217.out) | refine below_set ?_ GE214.out | refine below_set ?_ GE222.out) | exact HB.out));rintro e w48 ⟨rfl,hi,hb,hk⟩;refine ⟨_,rfl,?_⟩;have n0_:=Aside0.mk (KeepBut.blk hk (g':=gb214) (o:=.cells #[.string (⟨#[]⟩ : ByteArray),.int .i64 0,.int .i64 0] 26 (0,0)) (Up.Kup BK214) NB214_217.out (by simp));have n1_:=Aside0.mk (KeepBut.blk hk (g':=gb222) (o:=.cells #[.string t218,.int .i64 x223001_4,.int .i64 x223002_23] 26 (0,0)) (Up.Kup BK222) NB222_217.out (by simp));have n2_:=Aside0.mk (hb);have n3_:=Aside0.mk (hi);clear BK214 BK222 HB HI217;have BK214:=n0_;have BK222:=n1_;have HB:=n2_;have HI217:=n3_;clear n0_ n1_ n2_ n3_;(try clear hb);(try clear hb2);(try clear hk);(try clear hi);have hnb49:=NB222_214.out;have hnc49:=NB214_222.out;have hnb50:=NB222_217.out;have hnc50:=NB217_222.out;have hcz51_0:=Up.c0 BK222;have hcz51_1:=Up.c1 BK222;have hcz51_2:=Up.c2 BK222;have hfz51_0:=blk_frozen BK222.out 0;have hfz51_1:=blk_frozen BK222.out 1;have hfz51_2:=blk_frozen BK222.out 2;have hnb52:=NB214_217.out;have hnc52:=NB217_214.out;have hcz53_0:=Up.c0 BK214;have hcz53_1:=Up.c1 BK214;have hcz53_2:=Up.c2 BK214;have hfz53_0:=blk_frozen BK214.out 0;have hfz53_1:=blk_frozen BK214.out 1;have hfz53_2:=blk_frozen BK214.out 2))
      refine bodyPost_ret (results_cell_row rfl _ _ gb214 26 #[.string t218,.int .i64 x223001_4,.int .i64 x223002_23] (0,0) _ rfl (Up.Kx BK214) Tryd.underlying26 rfl (by kernel_rfl)) rfl ?_
      exact ⟨by first | rfl | (simp [errW_none,errW_some] <;> rfl) | (simp [*,errW_none,errW_some] <;> rfl),by repeat (first | (with_reducible first | exact HB.out | apply below_alloc | apply pw_below_drewN | apply below_drew1 | refine below_set ?_ (IsS70.ge HI217.out) | refine below_set ?_ GE214.out | refine below_set ?_ GE222.out) | exact HB.out)⟩

/-! ### laws_FnInsOk: function 7 -/
theorem bneNil_ (l : List UInt8) : (l != ([] : List UInt8)) = !l.isEmpty:=by cases l <;> rfl
def laws_FnInsOk.f (k : Nat) (l0 : List Int) : Option (Bool):=if (l0.length : Int) > 1048576 then (some true) else ((spec_DrawInsOk.f k l0).bind fun bt244 => ((impl_InsOk.f k bt244.1 bt244.2.1 bt244.2.2).bind fun t248 => ((spec_InsOk.f k bt244.1 bt244.2.1 bt244.2.2).bind fun t249 => (if (t248 != t249) = true then (some false) else ((impl_InsText.f k bt244.1 bt244.2.1 bt244.2.2).bind fun t250 => (some (t248 == (t250.toList != ([] : List UInt8)))))))))
theorem laws_FnInsOk.mono : ∀ a0 k,LeO (laws_FnInsOk.f k a0) (laws_FnInsOk.f (k + 1) a0):=by
 intro a0 k
 unfold laws_FnInsOk.f
 repeat' first
   | (with_reducible exact impl_InsOk.mono _ _ _ _)
   | (with_reducible exact impl_InsText.mono _ _ _ _)
   | (with_reducible exact spec_DrawInsOk.mono _ _)
   | (with_reducible exact spec_InsOk.mono _ _ _ _)
   | (with_reducible exact LeO.refl _)
   | (with_reducible exact LeO.none _)
   | (with_reducible refine LeO.ite ?_ ?_)
   | (with_reducible refine LeO.bind ?_ (fun _ => ?_))
   | exact impl_InsOk.mono _ _ _ _
   | exact impl_InsText.mono _ _ _ _
   | exact spec_DrawInsOk.mono _ _
   | exact spec_InsOk.mono _ _ _ _
   | exact LeO.none _
   | refine LeO.ite ?_ ?_
   | refine LeO.bind ?_ (fun _ => ?_)
set_option maxHeartbeats 8000000 in
set_option maxRecDepth 100000 in
theorem laws_FnInsOk.calls (k : Nat) (A0 : Option Addr) (c0 : Nat) (l0 : List Int) (r : Bool) (w : World) (hT_ : Tab w) (hr0 : Kd.C (Kd.int .u8) w A0 l0.length l0) (hc0 : l0.length ≤ c0) (h : laws_FnInsOk.f k l0 = some r) :
  Calls Tryd.prog 7 #[.slice A0 l0.length c0] w fun e w' => e = .returned (.bool r) ∧ Below w.heap.size w w':=by
 have hu26:=Tryd.underlying26
 have HR0:=Aside0.mk hr0
 have HC0:=Aside0.mk hc0
 clear hr0 hc0
 have HB:=Aside0.mk (Below.refl w.heap.size w)
 have H : (if (l0.length : Int) > 1048576 then (some true) else ((spec_DrawInsOk.f k l0).bind fun bt244 => ((impl_InsOk.f k bt244.1 bt244.2.1 bt244.2.2).bind fun t248 => ((spec_InsOk.f k bt244.1 bt244.2.1 bt244.2.2).bind fun t249 => (if (t248 != t249) = true then (some false) else ((impl_InsText.f k bt244.1 bt244.2.1 bt244.2.2).bind fun t250 => (some (t248 == (t250.toList != ([] : List UInt8)))))))))) = some r:=h
 clear h
 by_cases c2 : (l0.length : Int) > 1048576
 ·rw [if_pos c2] at H
  have c2b0 : decide (1048576 < (l0.length : Int)) = true:=decide_eq_true c2
  have c2b1 : decide (1048576 < l0.length) = true:=decide_eq_true (by omega)
  clear c2
  obtain rfl:=Option.some.inj H
  go_enter Tryd.func7,Tryd.ntmps7
  go_wp2
  go_ret
  exact ⟨by first | rfl | (rw [bneNil_];rfl) | (simp [errW_none,errW_some] <;> rfl) | (simp [*,errW_none,errW_some] <;> rfl),Up.Bup HB⟩
 ·rw [if_neg c2] at H
  have c2b0 : decide (1048576 < (l0.length : Int)) = false:=decide_eq_false c2
  have c2b1 : decide (1048576 < l0.length) = false:=decide_eq_false (by omega)
  clear c2
  replace H:=Option.bind_eq_some_iff.mp H
  obtain ⟨⟨t244,t245,t246⟩,A30,H⟩:=H
  replace H : ((impl_InsOk.f k t244 t245 t246).bind fun t248 => ((spec_InsOk.f k t244 t245 t246).bind fun t249 => (if (t248 != t249) = true then (some false) else ((impl_InsText.f k t244 t245 t246).bind fun t250 => (some (t248 == (t250.toList != ([] : List UInt8)))))))) = some r:=H
  have A3:=Aside0.mk A30
  clear A30
  replace H:=Option.bind_eq_some_iff.mp H
  obtain ⟨t248,A40,H⟩:=H
  replace H : ((spec_InsOk.f k t244 t245 t246).bind fun t249 => (if (t248 != t249) = true then (some false) else ((impl_InsText.f k t244 t245 t246).bind fun t250 => (some (t248 == (t250.toList != ([] : List UInt8))))))) = some r:=H
  have A4:=Aside0.mk A40
  clear A40
  replace H:=Option.bind_eq_some_iff.mp H
  obtain ⟨t249,A50,H⟩:=H
  replace H : (if (t248 != t249) = true then (some false) else ((impl_InsText.f k t244 t245 t246).bind fun t250 => (some (t248 == (t250.toList != ([] : List UInt8)))))) = some r:=H
  have A5:=Aside0.mk A50
  clear A50
  by_cases c6 : (t248 != t249) = true
  ·rw [if_pos c6] at H
   have c6b0 : (t248 != t249) = true:=c6
   (try (have c6b1 : decide (t248 = t249) = false:=by simpa using c6))
   (try (have c6b2 : (t248 == t249) = false:=by simpa using c6))
   (try (have c6b3 : ¬ (t248 = t249):=by simpa using c6))
   clear c6
   obtain rfl:=Option.some.inj H
   go_enter Tryd.func7,Tryd.ntmps7
   go_wp2_with (first | ((with_reducible refine gate_callee (f:=24) rfl ?_);refine Up.gl (some 10) Tryd.func24 #[.slice A0 l0.length c0] ?_;(with_reducible refine (spec_DrawInsOk.calls k _ _ l0 t244 t245 t246 _ ?side1 ?side2 A3.out).mono ?_);(case side1 => repeat (first | exact HR0.out | (with_reducible refine Kd.C_alloc ?_ _) | (with_reducible refine Kd.C_drewN ?_ _) | (with_reducible refine Kd.C_drew ?_)));(case side2 => exact HC0.out);rintro e w7 ⟨rfl,hb⟩;refine ⟨_,rfl,?_⟩;have n0_:=Up.BB HB hb;clear HB;have HB:=n0_;clear n0_;(try clear hb);(try clear hb2);(try clear hk);(try clear hi)) | ((with_reducible refine gate_dst (N:=3) rfl ?_);refine Up.bx 3 26 #[.string (⟨#[]⟩ : ByteArray),.int .i64 0,.int .i64 0] ?_;intro gb247 hg w8 hbox hb;have n0_:=Up.BB HB hb;have n1_:=Aside0.mk (hbox);have n2_:=Up.gw hg HB;have n3_:=Up.gw hg HB;clear HB;have HB:=n0_;have BK247:=n1_;have GW247:=n2_;have GE247:=n3_;clear n0_ n1_ n2_ n3_ hb hbox hg;have hcz9_0:=Up.c0 BK247;have hcz9_1:=Up.c1 BK247;have hcz9_2:=Up.c2 BK247;have hfz9_0:=blk_frozen BK247.out 0;have hfz9_1:=blk_frozen BK247.out 1;have hfz9_2:=blk_frozen BK247.out 2) | ((with_reducible refine gate_callee (f:=14) rfl ?_);refine Up.gl (some 12) Tryd.func14 #[.agg #[.string t244,.int .i64 t245,.int .i64 t246]] ?_;(with_reducible refine (impl_InsOk.calls (hT_:=?tab1) k t244 t245 t246 t248 _ A4.out).mono ?_);(case tab1 => exact hT_.below (Up.Bx HB));rintro e w10 ⟨rfl,hb⟩;refine ⟨_,rfl,?_⟩;have n0_:=Aside0.mk (blk_below (g:=gb247) (o:=.cells #[.string t244,.int .i64 t245,.int .i64 t246] 26 (0,0)) (Up.Kx BK247) hb);have n1_:=Aside0.mk (below_step (Up.Bx HB) hb);clear BK247 HB;have BK247:=n0_;have HB:=n1_;clear n0_ n1_;(try clear hb);(try clear hb2);(try clear hk);(try clear hi);have hcz11_0:=Up.c0 BK247;have hcz11_1:=Up.c1 BK247;have hcz11_2:=Up.c2 BK247;have hfz11_0:=blk_frozen BK247.out 0;have hfz11_1:=blk_frozen BK247.out 1;have hfz11_2:=blk_frozen BK247.out 2) | ((with_reducible refine gate_callee (f:=12) rfl ?_);refine Up.gl (some 14) Tryd.func12 #[.agg #[.string t244,.int .i64 t245,.int .i64 t246]] ?_;(with_reducible refine (spec_InsOk.calls k t244 t245 t246 t249 _ A5.out).mono ?_);rintro e w12 ⟨rfl,hb⟩;refine ⟨_,rfl,?_⟩;have n0_:=Up.KB BK247 hb;have n1_:=Aside0.mk (below_step (Up.Bx HB) hb);clear BK247 HB;have BK247:=n0_;have HB:=n1_;clear n0_ n1_;(try clear hb);(try clear hb2);(try clear hk);(try clear hi)))
   go_ret
   exact ⟨by first | rfl | (rw [bneNil_];rfl) | (simp [errW_none,errW_some] <;> rfl) | (simp [*,errW_none,errW_some] <;> rfl),Up.Bx HB⟩
  ·rw [if_neg c6] at H
   have c6b0 : (t248 != t249) = false:=by simpa using c6
   (try (have c6b1 : decide (t248 = t249) = true:=by simpa using c6))
   (try (have c6b2 : (t248 == t249) = true:=by simpa using c6))
   clear c6
   replace H:=Option.bind_eq_some_iff.mp H
   obtain ⟨t250,A130,H⟩:=H
   replace H : (some (t248 == (t250.toList != ([] : List UInt8)))) = some r:=H
   have A13:=Aside0.mk A130
   clear A130
   obtain rfl:=Option.some.inj H
   go_enter Tryd.func7,Tryd.ntmps7
   go_wp2_with (first | ((with_reducible refine gate_callee (f:=24) rfl ?_);refine Up.gl (some 10) Tryd.func24 #[.slice A0 l0.length c0] ?_;(with_reducible refine (spec_DrawInsOk.calls k _ _ l0 t244 t245 t246 _ ?side1 ?side2 A3.out).mono ?_);(case side1 => repeat (first | exact HR0.out | (with_reducible refine Kd.C_alloc ?_ _) | (with_reducible refine Kd.C_drewN ?_ _) | (with_reducible refine Kd.C_drew ?_)));(case side2 => exact HC0.out);rintro e w14 ⟨rfl,hb⟩;refine ⟨_,rfl,?_⟩;have n0_:=Up.BB HB hb;clear HB;have HB:=n0_;clear n0_;(try clear hb);(try clear hb2);(try clear hk);(try clear hi)) | ((with_reducible refine gate_dst (N:=3) rfl ?_);refine Up.bx 3 26 #[.string (⟨#[]⟩ : ByteArray),.int .i64 0,.int .i64 0] ?_;intro gb247 hg w15 hbox hb;have n0_:=Up.BB HB hb;have n1_:=Aside0.mk (hbox);have n2_:=Up.gw hg HB;have n3_:=Up.gw hg HB;clear HB;have HB:=n0_;have BK247:=n1_;have GW247:=n2_;have GE247:=n3_;clear n0_ n1_ n2_ n3_ hb hbox hg;have hcz16_0:=Up.c0 BK247;have hcz16_1:=Up.c1 BK247;have hcz16_2:=Up.c2 BK247;have hfz16_0:=blk_frozen BK247.out 0;have hfz16_1:=blk_frozen BK247.out 1;have hfz16_2:=blk_frozen BK247.out 2) | ((with_reducible refine gate_callee (f:=14) rfl ?_);refine Up.gl (some 12) Tryd.func14 #[.agg #[.string t244,.int .i64 t245,.int .i64 t246]] ?_;(with_reducible refine (impl_InsOk.calls (hT_:=?tab1) k t244 t245 t246 t248 _ A4.out).mono ?_);(case tab1 => exact hT_.below (Up.Bx HB));rintro e w17 ⟨rfl,hb⟩;refine ⟨_,rfl,?_⟩;have n0_:=Aside0.mk (blk_below (g:=gb247) (o:=.cells #[.string t244,.int .i64 t245,.int .i64 t246] 26 (0,0)) (Up.Kx BK247) hb);have n1_:=Aside0.mk (below_step (Up.Bx HB) hb);clear BK247 HB;have BK247:=n0_;have HB:=n1_;clear n0_ n1_;(try clear hb);(try clear hb2);(try clear hk);(try clear hi);have hcz18_0:=Up.c0 BK247;have hcz18_1:=Up.c1 BK247;have hcz18_2:=Up.c2 BK247;have hfz18_0:=blk_frozen BK247.out 0;have hfz18_1:=blk_frozen BK247.out 1;have hfz18_2:=blk_frozen BK247.out 2) | ((with_reducible refine gate_callee (f:=12) rfl ?_);refine Up.gl (some 14) Tryd.func12 #[.agg #[.string t244,.int .i64 t245,.int .i64 t246]] ?_;(with_reducible refine (spec_InsOk.calls k t244 t245 t246 t249 _ A5.out).mono ?_);rintro e w19 ⟨rfl,hb⟩;refine ⟨_,rfl,?_⟩;have n0_:=Up.KB BK247 hb;have n1_:=Aside0.mk (below_step (Up.Bx HB) hb);clear BK247 HB;have BK247:=n0_;have HB:=n1_;clear n0_ n1_;(try clear hb);(try clear hb2);(try clear hk);(try clear hi);have hcz20_0:=Up.c0 BK247;have hcz20_1:=Up.c1 BK247;have hcz20_2:=Up.c2 BK247;have hfz20_0:=blk_frozen BK247.out 0;have hfz20_1:=blk_frozen BK247.out 1;have hfz20_2:=blk_frozen BK247.out 2) | ((with_reducible refine gate_callee (f:=23) rfl ?_);refine Up.gl (some 20) Tryd.func23 #[.agg #[.string t244,.int .i64 t245,.int .i64 t246]] ?_;(with_reducible refine (impl_InsText.calls (hT_:=?tab1) k t244 t245 t246 t250 _ A13.out).mono ?_);(case tab1 => exact hT_.below (Up.Bx HB));rintro e w21 ⟨rfl,hb⟩;refine ⟨_,rfl,?_⟩;have n0_:=Up.KB BK247 hb;have n1_:=Aside0.mk (below_step (Up.Bx HB) hb);clear BK247 HB;have BK247:=n0_;have HB:=n1_;clear n0_ n1_;(try clear hb);(try clear hb2);(try clear hk);(try clear hi)))
   go_ret
   exact ⟨by first | rfl | (rw [bneNil_];rfl) | (simp [errW_none,errW_some] <;> rfl) | (simp [*,errW_none,errW_some] <;> rfl),Up.Bx HB⟩

/-- THE ONE PURE STATEMENT of laws_FnInsOk: yours. -/
def laws_FnInsOk.Pure : Prop:=∀ (l0 : List Int),l0.length ≤ maxLen → l0.length * 1 ≤ 140737488351232 → (∀ x ∈ l0,(Lit.int .u8 x).wf = true) → ∃ k,laws_FnInsOk.f k l0 = some true
theorem laws_FnInsOk.walk (P : laws_FnInsOk.Pure) (a0 : Option Addr) (len0 cap0 : Nat) (z0 : List Int) (w : World) (hT_ : Tab w) (w0 : (a0 = none ∧ len0 = 0 ∧ cap0 = 0 ∧ z0 = []) ∨ ∃ x,a0 = some x ∧ len0 ≤ cap0 ∧ cap0 ≤ maxLen ∧ z0.length = cap0 ∧ (∀ i,i < z0.length → w.cell? (x.add i) = some (.int .u8 (z0.getD i 0))) ∧ ∀ n ∈ z0,(Lit.int .u8 n).wf = true) (y0 : len0 * 1 ≤ 140737488351232) :
  Calls Tryd.prog 7 #[.slice a0 len0 cap0] w fun e w' => e = .returned (.bool true) ∧ Below w.heap.size w w':=by
 obtain ⟨l0,rfl,hr0,hm0,hw0,hc0⟩:=ReadsInt.ofRowC w0
 obtain ⟨k,h⟩:=P l0 hm0 y0 hw0
 refine (laws_FnInsOk.calls (hT_:=hT_) k _ _ l0 true w (Kd.C_of_reads (d:=(0 : Int)) (h1:=fun _ => rfl) hr0) hc0 h).mono ?_
 rintro e w' ⟨rfl,hd⟩
 exact ⟨rfl,hd⟩

end Go.Proofs.YtfkhjnmgaadomaaDoor.OFnInsOk
