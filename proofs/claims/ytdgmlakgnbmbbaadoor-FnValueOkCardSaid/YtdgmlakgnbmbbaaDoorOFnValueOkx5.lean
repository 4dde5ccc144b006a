-- Laid by a program of this session (wip/myprint.py): the kit's print of the functions, contracts of our own among them.
import Derived.Test.YtdgmlakgnbmbbaaDoorOFnValueOkx0
import Derived.Test.YtdgmlakgnbmbbaaDoorOFnValueOkx1
import Derived.Test.YtdgmlakgnbmbbaaDoorOFnValueOkx3
import Derived.Test.YtdgmlakgnbmbbaaDoorOFnValueOkx4
namespace Go.Proofs.YtdgmlakgnbmbbaaDoor.OFnValueOk
open Go.RowKit Go.Proofs.YtdgmlakgnbmbbaaDoorW.PrintWords Go.Proofs.YtdgmlakgnbmbbaaDoorW.PrintLast Go.Proofs.YtdgmlakgnbmbbaaDoorW.PrintMore
attribute [local go_sem] max2_int min2_int max_two min_two max_three min_three max_four min_four   -- for this text's walks alone
set_option linter.unusedVariables false
set_option linter.unusedSimpArgs false

/-! ### spec_l91Record: function 49 -/
mutual
def spec_l91Record.l0 : Nat → List (List (S81)) → Int → List Int → Int → Int → List ByteArray → Option (Int × List ByteArray × Int)
 | 0,_,_,_,_,_,_ => none
 | k + 1,x1,x6,x1000,x1001,x183000,x183001 => if x6 > 0 then ((spec_l91Type.f k x1000 x1001 x1 false).bind fun bt185 => (if x183001.length < 8796093022208 then (spec_l91Record.l0 k x1 (wrap64 (x6 - 1)) x1000 bt185.2 x183000 (x183001 ++ [bt185.1])) else (none))) else ((spec_l6Rd_pick.f k x1000 x1001 12).bind fun bt190 => (if bt190.1 = 0 then ((spec_l91Num.f k x1000 bt190.2 (([(-1),16,1,5] : List Int))).bind fun bt195 => (spec_l91Record.j1 k x1000 bt195.2 bt195.1 x183001)) else (spec_l91Record.j1 k x1000 bt190.2 x183000 x183001)))
def spec_l91Record.j1 : Nat → List Int → Int → Int → List ByteArray → Option (Int × List ByteArray × Int)
 | 0,_,_,_,_ => none
 | k + 1,x1000,x1001,x183000,x183001 => (spec_l6Rd_pick.f k x1000 x1001 15).bind fun bt197 => (if bt197.1 = 0 then ((spec_l6Rd_of.f k x1000 bt197.2 (([(⟨#[120]⟩ : ByteArray),(⟨#[]⟩ : ByteArray),(⟨#[83,48,57]⟩ : ByteArray),(⟨#[38,110]⟩ : ByteArray),(⟨#[83]⟩ : ByteArray)] : List ByteArray))).bind fun bt202 => (if x183001.length < 8796093022208 then (some (x183000,(x183001 ++ [bt202.1]),bt202.2)) else (none))) else (some (x183000,x183001,bt197.2)))
end
def spec_l91Record.f (k : Nat) (s0_0 : List Int) (s0_1 : Int) (l1 : List (List (S81))) : Option (Int × List ByteArray × Int):=(spec_l91Num.f k s0_0 s0_1 (([0,4,8,12,12,7,15,3,6,2] : List Int))).bind fun bt180 => ((spec_l6Rd_pick.f k s0_0 bt180.2 4).bind fun bt183 => (spec_l91Record.l0 k l1 bt183.1 s0_0 bt183.2 bt180.1 ([] : List ByteArray)))
theorem spec_l91Record.mono_l : ∀ k,(∀ y0 y1 y2 y3 y4 y5,LeO (spec_l91Record.l0 k y0 y1 y2 y3 y4 y5) (spec_l91Record.l0 (k + 1) y0 y1 y2 y3 y4 y5)) ∧ (∀ y0 y1 y2 y3,LeO (spec_l91Record.j1 k y0 y1 y2 y3) (spec_l91Record.j1 (k + 1) y0 y1 y2 y3))
 | 0 => ⟨fun _ _ _ _ _ _ r h => by simp [spec_l91Record.l0] at h,fun _ _ _ _ r h => by simp [spec_l91Record.j1] at h⟩
 | k + 1 => by
  obtain ⟨ih0,ih1⟩:=spec_l91Record.mono_l k
  refine ⟨?_,?_⟩
  ·intro y0 y1 y2 y3 y4 y5
   unfold spec_l91Record.l0
   repeat' first
   | (with_reducible exact ih0 _ _ _ _ _ _)
   | (with_reducible exact ih1 _ _ _ _)
   | (with_reducible exact spec_l6Rd_of.mono _ _ _ _)
   | (with_reducible exact spec_l6Rd_pick.mono _ _ _ _)
   | (with_reducible exact spec_l91Num.mono _ _ _ _)
   | (with_reducible exact spec_l91Type.mono _ _ _ _ _)
   | (with_reducible exact LeO.refl _)
   | (with_reducible exact LeO.none _)
   | (with_reducible refine LeO.ite ?_ ?_)
   | (with_reducible refine LeO.bind ?_ (fun _ => ?_))
   | exact ih0 _ _ _ _ _ _
   | exact ih1 _ _ _ _
   | exact spec_l6Rd_of.mono _ _ _ _
   | exact spec_l6Rd_pick.mono _ _ _ _
   | exact spec_l91Num.mono _ _ _ _
   | exact spec_l91Type.mono _ _ _ _ _
   | exact LeO.none _
   | refine LeO.ite ?_ ?_
   | refine LeO.bind ?_ (fun _ => ?_)
  ·intro y0 y1 y2 y3
   unfold spec_l91Record.j1
   repeat' first
   | (with_reducible exact ih0 _ _ _ _ _ _)
   | (with_reducible exact ih1 _ _ _ _)
   | (with_reducible exact spec_l6Rd_of.mono _ _ _ _)
   | (with_reducible exact spec_l6Rd_pick.mono _ _ _ _)
   | (with_reducible exact spec_l91Num.mono _ _ _ _)
   | (with_reducible exact spec_l91Type.mono _ _ _ _ _)
   | (with_reducible exact LeO.refl _)
   | (with_reducible exact LeO.none _)
   | (with_reducible refine LeO.ite ?_ ?_)
   | (with_reducible refine LeO.bind ?_ (fun _ => ?_))
   | exact ih0 _ _ _ _ _ _
   | exact ih1 _ _ _ _
   | exact spec_l6Rd_of.mono _ _ _ _
   | exact spec_l6Rd_pick.mono _ _ _ _
   | exact spec_l91Num.mono _ _ _ _
   | exact spec_l91Type.mono _ _ _ _ _
   | exact LeO.none _
   | refine LeO.ite ?_ ?_
   | refine LeO.bind ?_ (fun _ => ?_)
theorem spec_l91Record.mono : ∀ a0 a1 a2 k,LeO (spec_l91Record.f k a0 a1 a2) (spec_l91Record.f (k + 1) a0 a1 a2):=by
 intro a0 a1 a2 k
 obtain ⟨ih0,ih1⟩:=spec_l91Record.mono_l k
 unfold spec_l91Record.f
 repeat' first
   | (with_reducible exact ih0 _ _ _ _ _ _)
   | (with_reducible exact ih1 _ _ _ _)
   | (with_reducible exact spec_l6Rd_of.mono _ _ _ _)
   | (with_reducible exact spec_l6Rd_pick.mono _ _ _ _)
   | (with_reducible exact spec_l91Num.mono _ _ _ _)
   | (with_reducible exact spec_l91Type.mono _ _ _ _ _)
   | (with_reducible exact LeO.refl _)
   | (with_reducible exact LeO.none _)
   | (with_reducible refine LeO.ite ?_ ?_)
   | (with_reducible refine LeO.bind ?_ (fun _ => ?_))
   | exact ih0 _ _ _ _ _ _
   | exact ih1 _ _ _ _
   | exact spec_l6Rd_of.mono _ _ _ _
   | exact spec_l6Rd_pick.mono _ _ _ _
   | exact spec_l91Num.mono _ _ _ _
   | exact spec_l91Type.mono _ _ _ _ _
   | exact LeO.none _
   | refine LeO.ite ?_ ?_
   | refine LeO.bind ?_ (fun _ => ?_)
def spec_l91Record.T5 : Bool × List (List Nat × List Nat):=(true,[([],[]),([0],[0]),([],[]),([],[]),([2,3],[2,3]),([4],[4]),([1,5,4],[1,5]),([0,1,2,3,4,5,6],[]),([7,6,6,0,1,2,3,4,5,6],[6,7])])
def spec_l91Record.B5 : List Nat:=[0,1,0,0,12,28,63,127,255]
theorem spec_l91Record.tab5 : rtab .any (opsOf Tryd.f49 5) = spec_l91Record.T5:=by kernel_rfl
theorem spec_l91Record.bits5 : waitsOk spec_l91Record.T5.2 spec_l91Record.B5 = true:=by kernel_rfl
def spec_l91Record.T9 : Bool × List (List Nat × List Nat):=(true,[([],[]),([0],[0]),([],[]),([],[]),([2,3],[2,3]),([4],[4]),([1,5,4],[1,5]),([0,1,2,3,4,5,6],[]),([7,6,6,0,1,2,3,4,5,6],[6,7])])
def spec_l91Record.B9 : List Nat:=[0,1,0,0,12,28,63,127,255]
theorem spec_l91Record.tab9 : rtab .any (opsOf Tryd.f49 9) = spec_l91Record.T9:=by kernel_rfl
theorem spec_l91Record.bits9 : waitsOk spec_l91Record.T9.2 spec_l91Record.B9 = true:=by kernel_rfl
set_option maxHeartbeats 8000000 in
set_option maxRecDepth 100000 in
theorem spec_l91Record.calls (k : Nat) (g : Nat) (s0_0 : List Int) (s0_1 : Int) (A1 : Option Addr) (c1 : Nat) (l1 : List (List (S81))) (r1 : Int) (r2 : List ByteArray) (r3 : Int) (w0 w : World) (hI : IsS79 w0 w g s0_0 s0_1) (hB : Below w0.heap.size w0 w) (hr1 : ∀ W_,KeepBut w W_ g none → Kd.C (Kd.slice 81 k81) W_ A1 l1.length l1) (hc1 : l1.length ≤ c1) (h : spec_l91Record.f k s0_0 s0_1 l1 = some (r1,r2,r3)) :
  Calls Tryd.prog 49 #[.pointer (some ⟨g,0,none⟩),.slice A1 l1.length c1] w fun e w' => ∃ v1_ : Value,e = .returned (.agg #[.int .i64 r1,v1_]) ∧ Kd.R Kd.string 9 w' w.heap.size (fun _ => True) v1_ r2 ∧ IsS79 w0 w' g s0_0 r3 ∧ Below w0.heap.size w0 w' ∧ KeepBut w w' g none:=by
 have hu81:=Tryd.underlying81
 have HR1:=Aside0.mk hr1
 have HC1:=Aside0.mk hc1
 clear hr1 hc1
 have HI0:=Aside0.mk hI
 have HK:=Aside0.mk (KeepBut.refl w g none)
 have HL:=Aside0.mk hB.size
 clear hI
 have HW0:=Aside0.mk hB.size
 have HB:=Aside0.mk hB
 clear hB
 have H : ((spec_l91Num.f k s0_0 s0_1 (([0,4,8,12,12,7,15,3,6,2] : List Int))).bind fun bt180 => ((spec_l6Rd_pick.f k s0_0 bt180.2 4).bind fun bt183 => (spec_l91Record.l0 k l1 bt183.1 s0_0 bt183.2 bt180.1 ([] : List ByteArray)))) = some (r1,r2,r3):=h
 clear h
 obtain ⟨y177,hy177⟩ : ∃ y_ : List Int,y_ = (([0,4,8,12,12,7,15,3,6,2] : List Int)):=⟨_,rfl⟩
 replace H : ((spec_l91Num.f k s0_0 s0_1 y177).bind fun bt180 => ((spec_l6Rd_pick.f k s0_0 bt180.2 4).bind fun bt183 => (spec_l91Record.l0 k l1 bt183.1 s0_0 bt183.2 bt180.1 ([] : List ByteArray)))) = some (r1,r2,r3):=by first | (rw [hy177];with_reducible exact H) | (have H2_:=(Option.bind_some _ _).symm.trans H;rw [hy177];with_reducible exact H2_) | (have H2_:=(Option.bind_some _ _).symm.trans H;with_reducible exact H2_) | with_reducible exact H | (rw [hy177];exact H) | exact H
 have Ny177:=Aside0.mk hy177
 clear hy177
 replace H:=Option.bind_eq_some_iff.mp H
 obtain ⟨⟨t180,t181⟩,A30,H⟩:=H
 replace H : ((spec_l6Rd_pick.f k s0_0 t181 4).bind fun bt183 => (spec_l91Record.l0 k l1 bt183.1 s0_0 bt183.2 t180 ([] : List ByteArray))) = some (r1,r2,r3):=H
 have A3:=Aside0.mk A30
 clear A30
 replace H:=Option.bind_eq_some_iff.mp H
 obtain ⟨⟨t183,t184⟩,A40,H⟩:=H
 replace H : (spec_l91Record.l0 k l1 t183 s0_0 t184 t180 ([] : List ByteArray)) = some (r1,r2,r3):=H
 have A4:=Aside0.mk A40
 clear A40
 have H':=Aside0.mk H
 clear H
 go_enter Tryd.func49,Tryd.ntmps49
 go_wp2_with (first | ((with_reducible refine gate_dst (N:=4) rfl ?_);refine Up.bx 4 81 #[.int .i64 0,.slice none 0 0] ?_;intro gb176 hg w5 hbox hb;have n0_:=Aside0.mk (IsS79.below (Ip0 HI0) hb);have n1_:=Aside0.mk (KeepBut.trans (Up.Kp0 HK) (KeepBut.of_below hb g none) (.inl rfl));have n2_:=Aside0.mk (below_step (Up.Bs HB (IsS79.ge HI0.out)) hb);have n3_:=Aside0.mk (hbox);have n4_:=Aside0.mk ((by rw [hg];exact (keep_size (w:=w) (g:=g) (row:=none) (Up.Kp0 HK)) : w.heap.size ≤ gb176));have n5_:=Aside0.mk ((Nat.le_trans HW0.out (by rw [hg];exact (keep_size (w:=w) (g:=g) (row:=none) (Up.Kp0 HK)) : w.heap.size ≤ gb176) : w0.heap.size ≤ gb176));have n6_:=Aside0.mk ((by rw [hg];exact Nat.ne_of_lt (IsS79.lt (show IsS79 w0 _ g s0_0 s0_1 from by repeat (first | (with_reducible first | exact HI0.out | apply IsS79.alloc | apply IsS79.drewN | apply IsS79.drew | apply IsS79.set_1) | exact HI0.out))) : g ≠ gb176));have n7_:=Aside0.mk ((by rw [hg];exact Nat.ne_of_gt (IsS79.lt (show IsS79 w0 _ g s0_0 s0_1 from by repeat (first | (with_reducible first | exact HI0.out | apply IsS79.alloc | apply IsS79.drewN | apply IsS79.drew | apply IsS79.set_1) | exact HI0.out))) : gb176 ≠ g));clear HI0 HK HB;have HI0:=n0_;have HK:=n1_;have HB:=n2_;have BK176:=n3_;have GW176:=n4_;have GE176:=n5_;have NB0_176:=n6_;have NB176_0:=n7_;clear n0_ n1_ n2_ n3_ n4_ n5_ n6_ n7_ hb hbox hg) | ((with_reducible refine gate_dst (N:=8) rfl ?_);refine Kd.R_lit (Kd.int .i64) _ 3 ?hg (N:=8) ?hd (xs:=([0,4,8,12,12,7,15,3,6,2] : List Int)) (inner:=[.int .i64 0,.int .i64 4,.int .i64 8,.int .i64 12,.int .i64 12,.int .i64 7,.int .i64 15,.int .i64 3,.int .i64 6,.int .i64 2]) (ok:=fun _ => True) (okp:=fun _ => True) ?hr ?hp (fun _ hk => hk) trivial (Below.refl _ _) (Nat.le_refl _) (by simp) ?_;(case hd => rfl);(case hg => rfl);(case hr => first | (go_simp;done) | (go_simp;rfl));(case hp => exact (Reps.one (show Kd.M (Kd.int .i64) _ _ _ 0 [.int .i64 0] from rfl) (Reps.one (show Kd.M (Kd.int .i64) _ _ _ 4 [.int .i64 4] from rfl) (Reps.one (show Kd.M (Kd.int .i64) _ _ _ 8 [.int .i64 8] from rfl) (Reps.one (show Kd.M (Kd.int .i64) _ _ _ 12 [.int .i64 12] from rfl) (Reps.one (show Kd.M (Kd.int .i64) _ _ _ 12 [.int .i64 12] from rfl) (Reps.one (show Kd.M (Kd.int .i64) _ _ _ 7 [.int .i64 7] from rfl) (Reps.one (show Kd.M (Kd.int .i64) _ _ _ 15 [.int .i64 15] from rfl) (Reps.one (show Kd.M (Kd.int .i64) _ _ _ 3 [.int .i64 3] from rfl) (Reps.one (show Kd.M (Kd.int .i64) _ _ _ 6 [.int .i64 6] from rfl) (Reps.one (show Kd.M (Kd.int .i64) _ _ _ 2 [.int .i64 2] from rfl) (Reps.none _ _))))))))))));intro v178 w6 ho7 hb hg_ hnew_;clear hg_ hnew_;(first | rw [← Ny177.out] at ho7 | (simp only [Int.reduceToNat] at ho7;rw [← Ny177.out] at ho7));have n0_:=Aside0.mk (Kd.R_lower ho7 (keep_size (w:=w) (g:=g) (row:=none) (Up.Kp HK GW176)));have n1_:=Aside0.mk (IsS79.below (Ip1 HI0 NB0_176) hb);have n2_:=Up.KB BK176 hb;have n3_:=Aside0.mk (KeepBut.trans (Up.Kp HK GW176) (KeepBut.of_below hb g none) (.inl rfl));have n4_:=Aside0.mk (below_step (Up.Bt HB (IsS79.ge HI0.out) GE176) hb);clear HI0 BK176 HK HB;have HO179:=n0_;have HI0:=n1_;have BK176:=n2_;have HK:=n3_;have HB:=n4_;clear n0_ n1_ n2_ n3_ n4_ hb ho7;obtain ⟨Ao8,co8,eo8⟩:=Kd.R_slice HO179.out;subst eo8) | ((with_reducible refine gate_callee (f:=50) rfl ?_);refine Up.gl (some 9) Tryd.func50 #[.pointer (some ⟨g,0,none⟩),.slice Ao8 y177.length co8] ?_;(with_reducible refine (spec_l91Num.calls k g s0_0 s0_1 _ _ y177 t180 t181 w0 _ ?side1 ?side2 ?side3 ?side4 ?side5 A3.out).mono ?_);(case side1 => repeat (first | (with_reducible first | exact HI0.out | apply IsS79.alloc | apply IsS79.drewN | apply IsS79.drew | apply IsS79.set_1 | refine IsS79.far ?_ NB0_176.out _) | exact HI0.out));(case side2 => repeat (first | (with_reducible first | exact HB.out | apply below_alloc | apply pw_below_drewN | apply below_drew1 | refine below_set ?_ (IsS79.ge HI0.out) | refine below_set ?_ GE176.out) | exact HB.out));(case side3 => repeat (first | exact (Kd.R_reads' HO179.out).2.2 | (with_reducible refine Kd.C_alloc ?_ _) | (with_reducible refine Kd.C_drewN ?_ _) | (with_reducible refine Kd.C_drew ?_)));(case side4 => exact (Kd.R_reads' HO179.out).2.1);(case side5 => exact far_slice (IsS79.own_ne HI0.out HO179.out (by decide)));rintro e w9 ⟨rfl,hi,hb,hk⟩;refine ⟨_,rfl,?_⟩;have n0_:=Aside0.mk (KeepBut.blk hk (g':=gb176) (o:=.cells #[.int .i64 0,.slice none 0 0] 81 (0,0)) (Up.Kup BK176) NB176_0.out (by simp));have n1_:=Aside0.mk (Kd.R_mono (Kd.R_keep (IsS79.apart (show IsS79 w0 _ g s0_0 s0_1 from by repeat (first | (with_reducible first | exact HI0.out | apply IsS79.alloc | apply IsS79.drewN | apply IsS79.drew | apply IsS79.set_1 | refine IsS79.far ?_ NB0_176.out _) | exact HI0.out)) (Up.Rup HO179) (by decide)) hk (fun _ h => h.2)) (fun _ h => h.1));have n2_:=Aside0.mk (KeepBut.trans (Up.Kp HK GW176) hk (.inl rfl));have n3_:=Aside0.mk (hb);have n4_:=Aside0.mk (hi);clear BK176 HO179 HK HB HI0;have BK176:=n0_;have HO179:=n1_;have HK:=n2_;have HB:=n3_;have HI0:=n4_;clear n0_ n1_ n2_ n3_ n4_;(try clear hb);(try clear hb2);(try clear hk);(try clear hi)) | ((with_reducible refine gate_dst (N:=5) rfl ?_);refine Up.bx 5 81 #[.int .i64 0,.slice none 0 0] ?_;intro gb182 hg w10 hbox hb;have n0_:=Up.RB HO179 hb;have n1_:=Aside0.mk (IsS79.below (Ip1 HI0 NB0_176) hb);have n2_:=Up.KB BK176 hb;have n3_:=Aside0.mk (KeepBut.trans (Up.Kp HK GW176) (KeepBut.of_below hb g none) (.inl rfl));have n4_:=Aside0.mk (below_step (Up.Bt HB (IsS79.ge HI0.out) GE176) hb);have n5_:=Aside0.mk (hbox);have n6_:=Aside0.mk ((by rw [hg];exact (keep_size (w:=w) (g:=g) (row:=none) (Up.Kp HK GW176)) : w.heap.size ≤ gb182));have n7_:=Aside0.mk ((Nat.le_trans HW0.out (by rw [hg];exact (keep_size (w:=w) (g:=g) (row:=none) (Up.Kp HK GW176)) : w.heap.size ≤ gb182) : w0.heap.size ≤ gb182));have n8_:=Up.nl hg BK176;have n9_:=Up.ng hg BK176;have n10_:=Aside0.mk ((by rw [hg];exact Nat.ne_of_lt (IsS79.lt (show IsS79 w0 _ g s0_0 t181 from by repeat (first | (with_reducible first | exact HI0.out | apply IsS79.alloc | apply IsS79.drewN | apply IsS79.drew | apply IsS79.set_1 | refine IsS79.far ?_ NB0_176.out _) | exact HI0.out))) : g ≠ gb182));have n11_:=Aside0.mk ((by rw [hg];exact Nat.ne_of_gt (IsS79.lt (show IsS79 w0 _ g s0_0 t181 from by repeat (first | (with_reducible first | exact HI0.out | apply IsS79.alloc | apply IsS79.drewN | apply IsS79.drew | apply IsS79.set_1 | refine IsS79.far ?_ NB0_176.out _) | exact HI0.out))) : gb182 ≠ g));clear HO179 HI0 BK176 HK HB;have HO179:=n0_;have HI0:=n1_;have BK176:=n2_;have HK:=n3_;have HB:=n4_;have BK182:=n5_;have GW182:=n6_;have GE182:=n7_;have NB176_182:=n8_;have NB182_176:=n9_;have NB0_182:=n10_;have NB182_0:=n11_;clear n0_ n1_ n2_ n3_ n4_ n5_ n6_ n7_ n8_ n9_ n10_ n11_ hb hbox hg;have hnb11:=NB182_176.out;have hnc11:=NB176_182.out;have hnb12:=NB182_0.out;have hnc12:=NB0_182.out;have hcz13_0:=Up.c0 BK182;have hcz13_1:=Up.c1 BK182;have hfz13_0:=blk_frozen BK182.out 0;have hfz13_1:=blk_frozen BK182.out 1) | ((with_reducible refine gate_callee (f:=46) rfl ?_);refine Up.gl (some 12) Tryd.func46 #[.pointer (some ⟨g,0,none⟩),.int .i64 4] ?_;(with_reducible refine (spec_l6Rd_pick.calls k g s0_0 t181 4 t183 t184 w0 _ ?side1 ?side2 A4.out).mono ?_);(case side1 => repeat (first | (with_reducible first | exact HI0.out | apply IsS79.alloc | apply IsS79.drewN | apply IsS79.drew | apply IsS79.set_1 | refine IsS79.far ?_ NB0_176.out _ | refine IsS79.far ?_ NB0_182.out _) | exact HI0.out));(case side2 => repeat (first | (with_reducible first | exact HB.out | apply below_alloc | apply pw_below_drewN | apply below_drew1 | refine below_set ?_ (IsS79.ge HI0.out) | refine below_set ?_ GE176.out | refine below_set ?_ GE182.out) | exact HB.out));rintro e w14 ⟨rfl,hi,hb,hk⟩;refine ⟨_,rfl,?_⟩;have n0_:=Aside0.mk (KeepBut.blk hk (g':=gb176) (o:=.cells #[.int .i64 0,.slice none 0 0] 81 (0,0)) (Up.Kx BK176) NB176_0.out (by simp));have n1_:=Aside0.mk (Kd.R_mono (Kd.R_keep (IsS79.apart (show IsS79 w0 _ g s0_0 t181 from by repeat (first | (with_reducible first | exact HI0.out | apply IsS79.alloc | apply IsS79.drewN | apply IsS79.drew | apply IsS79.set_1 | refine IsS79.far ?_ NB0_176.out _ | refine IsS79.far ?_ NB0_182.out _) | exact HI0.out)) (by (with_reducible repeat (first | apply Kd.R_alloc | apply Kd.R_drewN | apply Kd.R_drew));exact (Kd.R_mono (Kd.R_far (p:=⟨gb182,1,none⟩) (Kd.R_far (p:=⟨gb182,0,none⟩) (Kd.R_types HO179.out BK182.out (by decide)) (fun _ hk => hk.2) (.int .i64 t180)) (fun _ hk => hk.2) (.slice none 0 0)) (fun _ h_ => h_.1))) (by decide)) hk (fun _ h => h.2)) (fun _ h => h.1));have n2_:=Aside0.mk (KeepBut.blk hk (g':=gb182) (o:=.cells #[.int .i64 t180,.slice none 0 0] 81 (0,0)) (Up.Kx BK182) NB182_0.out (by simp));have n3_:=Aside0.mk (KeepBut.trans (by repeat (first | (with_reducible first | exact HK.out | apply KeepBut.set_ | apply keep_drewN | apply keep_drew | apply keep_alloc | refine keep_far ?_ GW176.out _ | refine keep_far ?_ GW182.out _) | exact HK.out)) hk (.inl rfl));have n4_:=Aside0.mk (hb);have n5_:=Aside0.mk (hi);clear BK176 HO179 BK182 HK HB HI0;have BK176:=n0_;have HO179:=n1_;have BK182:=n2_;have HK:=n3_;have HB:=n4_;have HI0:=n5_;clear n0_ n1_ n2_ n3_ n4_ n5_;(try clear hb);(try clear hb2);(try clear hk);(try clear hi)))
 go_loopg [6] k (fun kq v6 w' => ∃ (x6_1 : Int) (x1001_1 : Int) (x183001_1 : List ByteArray) (u183001 : Value),v6 = .int .i64 x6_1 ∧ Aside0 (spec_l91Record.l0 kq l1 x6_1 s0_0 x1001_1 t180 x183001_1 = some (r1,r2,r3)) ∧ Aside0 (kq ≤ k) ∧ Aside0 (Kd.R Kd.string 9 w' w.heap.size (fun _ => True) u183001 x183001_1) ∧ Aside0 (w'.heap[gb176]? = some (.cells #[.int .i64 0,(.slice none 0 0)] 81 (0,0))) ∧ Aside0 (w'.heap[gb182]? = some (.cells #[.int .i64 t180,u183001] 81 (0,0))) ∧ Aside0 (IsS79 w0 w' g s0_0 x1001_1) ∧ Aside0 (KeepBut w w' g none) ∧ Aside0 (Below w0.heap.size w0 w'))
 case atStart => exact ⟨(t183),(t184),(([] : List ByteArray)),(.slice none 0 0),(by first | rfl | (simp;done) | (simp [*];done)),H',⟨Nat.le_refl _⟩,⟨by first | exact Kd.R_nil _ _ _ _ _ | exact Kd.N_nil _ _ _ _ _ | exact Kd.V_nil _ _ _ _ _ | exact Kd.Q_nil _ _ _ _ _ | exact Kd.S_nil _ _ _ _ _⟩,⟨by (with_reducible repeat (first | refine blk_drewN ?_ _ | refine blk_drew ?_ | refine blk_alloc ?_ _));exact BK176.out⟩,⟨by (with_reducible repeat (first | refine blk_drewN ?_ _ | refine blk_drew ?_ | refine blk_alloc ?_ _));exact BK182.out⟩,⟨by repeat (first | (with_reducible first | exact HI0.out | apply IsS79.alloc | apply IsS79.drewN | apply IsS79.drew | apply IsS79.set_1 | refine IsS79.far ?_ NB0_176.out _ | refine IsS79.far ?_ NB0_182.out _) | exact HI0.out)⟩,⟨by repeat (first | (with_reducible first | exact HK.out | apply KeepBut.set_ | apply keep_drewN | apply keep_drew | apply keep_alloc | refine keep_far ?_ GW176.out _ | refine keep_far ?_ GW182.out _) | exact HK.out)⟩,⟨by repeat (first | (with_reducible first | exact HB.out | apply below_alloc | apply pw_below_drewN | apply below_drew1 | refine below_set ?_ (IsS79.ge HI0.out) | refine below_set ?_ GE176.out | refine below_set ?_ GE182.out) | exact HB.out)⟩⟩
 case round =>
  clear H'
  try clear c1
  try clear p2
  try clear c4
  try clear c5
  try clear c11
  try clear c12
  try clear hcz13_0
  try clear hcz13_1
  try clear hfz13_0
  try clear hfz13_1
  obtain ⟨x6_1,x1001_1,x183001_1,u183001,rfl,HA,HK1,HO_183001,BK176,BK182,HI0,HK,HB⟩:=hrel
  cases gk with
  | zero => exact absurd HA.out (by simp [spec_l91Record.l0])
  | succ k1 =>
   have H:=HA.out
   clear HA
   simp only [spec_l91Record.l0] at H
   by_cases c15 : x6_1 > 0
   ·rw [if_pos c15] at H
    have c15b0 : decide (0 < x6_1) = true:=decide_eq_true c15
    clear c15
    replace H:=Option.bind_eq_some_iff.mp H
    obtain ⟨⟨t185,t186⟩,A160,H⟩:=H
    replace H : (if x183001_1.length < 8796093022208 then (spec_l91Record.l0 k1 l1 (wrap64 (x6_1 - 1)) s0_0 t186 t180 (x183001_1 ++ [t185])) else (none)) = some (r1,r2,r3):=H
    have A16:=Aside0.mk A160
    clear A160
    by_cases c17 : x183001_1.length < 8796093022208
    ·rw [if_pos c17] at H
     have LMc17:=Aside0.mk c17
     clear c17
     obtain ⟨y187,hy187⟩ : ∃ y_ : List ByteArray,y_ = (x183001_1 ++ [t185]):=⟨_,rfl⟩
     replace H : (spec_l91Record.l0 k1 l1 (wrap64 (x6_1 - 1)) s0_0 t186 t180 y187) = some (r1,r2,r3):=by first | (rw [hy187];with_reducible exact H) | (have H2_:=(Option.bind_some _ _).symm.trans H;rw [hy187];with_reducible exact H2_) | (have H2_:=(Option.bind_some _ _).symm.trans H;with_reducible exact H2_) | with_reducible exact H | (rw [hy187];exact H) | exact H
     have Ny187:=Aside0.mk hy187
     clear hy187
     have H':=Aside0.mk H
     clear H
     try go_wp2
     have n0_:=Aside0.mk (Kd.R_drew HO_183001.out)
     have n1_:=Aside0.mk (blk_drew BK176.out)
     have n2_:=Aside0.mk (blk_drew BK182.out)
     have n3_:=Aside0.mk (IsS79.drew HI0.out)
     have n4_:=Aside0.mk (keep_drew HK.out)
     have n5_:=Aside0.mk (below_drew1 HB.out)
     clear HO_183001
     clear BK176
     clear BK182
     clear HI0
     clear HK
     clear HB
     have HO_183001:=n0_
     have BK176:=n1_
     have BK182:=n2_
     have HI0:=n3_
     have HK:=n4_
     have HB:=n5_
     clear n0_ n1_ n2_ n3_ n4_ n5_
     refine start_ (n:=9) (S:=fun w' => w'.cell? ⟨gb182,0,none⟩ = some (.int .i64 t180) ∧ w'.cell? ⟨gb182,1,none⟩ = some (u183001)) (ds:=[8]) #[false,false,false,false,false,false,false,false,false] (by kernel_rfl) rfl rfl ⟨Up.c0 BK182,Up.c1 BK182⟩ (fun hHeld => ?_);refine with_tabW spec_l91Record.tab5 spec_l91Record.bits5 (fun HT_ HW_ => ?_)
     generalize wr.drew = w18 at HO_183001 BK176 BK182 HI0 HK HB hHeld ⊢
     refine Up.pu 0 (some 17) HT_ ?_
     refine Up.pu 2 (some 19) HT_ ?_
     refine Up.pu 3 (some 20) HT_ ?_
     refine Up.tk 1 (some 18) HT_ HW_ hHeld ?_ (hy:=by rintro w' ⟨s0,s1⟩;go_simp;with_reducible rfl)
     refine Up.on 4 (some 21) HT_ (fun K hK => ?_)
     refine Up.go Tryd.func27 #[.pointer (some ⟨g,0,none⟩),.slice A1 l1.length c1,.bool false] ?_
     with_reducible refine (spec_l91Type.calls k1 g s0_0 x1001_1 _ _ l1 false t185 t186 w0 _ ?side1 ?side2 ?side3 ?side4 A16.out).mono ?_
     (case side1 => repeat (first | (with_reducible first | exact HI0.out | apply IsS79.alloc | apply IsS79.drewN | apply IsS79.drew | apply IsS79.set_1 | refine IsS79.far ?_ NB0_176.out _ | refine IsS79.far ?_ NB0_182.out _) | exact HI0.out))
     (case side2 => repeat (first | (with_reducible first | exact HB.out | apply below_alloc | apply pw_below_drewN | apply below_drew1 | refine below_set ?_ (IsS79.ge HI0.out) | refine below_set ?_ GE176.out | refine below_set ?_ GE182.out) | exact HB.out))
     (case side3 => exact Kd.C_foot_step HR1.out (by repeat (first | (with_reducible first | exact HK.out | apply KeepBut.set_ | apply keep_drewN | apply keep_drew | apply keep_alloc | refine keep_far ?_ GW176.out _ | refine keep_far ?_ GW182.out _) | exact HK.out)))
     (case side4 => exact HC1.out)
     rintro e w19 ⟨rfl,hi,hb,hk⟩
     refine ⟨_,rfl,?_⟩
     have n0_:=Aside0.mk (Kd.R_mono (Kd.R_keep (IsS79.apart (show IsS79 w0 _ g s0_0 x1001_1 from by repeat (first | (with_reducible first | exact HI0.out | apply IsS79.alloc | apply IsS79.drewN | apply IsS79.drew | apply IsS79.set_1 | refine IsS79.far ?_ NB0_176.out _ | refine IsS79.far ?_ NB0_182.out _) | exact HI0.out)) (Up.Rup HO_183001) (by decide)) hk (fun _ h => h.2)) (fun _ h => h.1))
     have n1_:=Aside0.mk (KeepBut.blk hk (g':=gb176) (o:=.cells #[.int .i64 0,.slice none 0 0] 81 (0,0)) (Up.Kup BK176) NB176_0.out (by simp))
     have n2_:=Aside0.mk (KeepBut.blk hk (g':=gb182) (o:=.cells #[.int .i64 t180,u183001] 81 (0,0)) (Up.Kup BK182) NB182_0.out (by simp))
     have n3_:=Aside0.mk (KeepBut.trans (by repeat (first | (with_reducible first | exact HK.out | apply KeepBut.set_ | apply keep_drewN | apply keep_drew | apply keep_alloc | refine keep_far ?_ GW176.out _ | refine keep_far ?_ GW182.out _) | exact HK.out)) hk (.inl rfl))
     have n4_:=Aside0.mk (hb)
     have n5_:=Aside0.mk (hi)
     clear HO_183001
     clear BK176
     clear BK182
     clear HK
     clear HB
     clear HI0
     have HO_183001:=n0_
     have BK176:=n1_
     have BK182:=n2_
     have HK:=n3_
     have HB:=n4_
     have HI0:=n5_
     clear n0_ n1_ n2_ n3_ n4_ n5_
     (try clear hb)
     (try clear hb2)
     (try clear hk)
     (try clear hi)
     refine hK.out _ _ ⟨Up.c0 BK182,Up.c1 BK182⟩ (fun hHeld => ?_)
     clear hK K
     refine Up.nm 21 ?_
     refine Up.on 5 (some 22) HT_ (fun K hK => ?_)
     refine value_ (w1:=?_) (v:=?_) (by rfl) rfl ?_ ?_
     rotate_left 2
     ·go_simp
      constructor
      ·rfl
      ·rfl
     refine hK.out _ _ ⟨(blk_cell (blk_alloc BK182.out _) 0).trans rfl,(blk_cell (blk_alloc BK182.out _) 1).trans rfl⟩ (fun hHeld => ?_)
     clear hK K
     refine Up.nm 22 ?_
     refine Up.on 6 (some 23) HT_ (fun K hK => ?_)
     refine Kd.R_append_step Kd.string w.heap.size (by rfl) (.tmp 18) (.tmp 22) 73 9 (.string ⟨#[]⟩) 16 rfl Tryd.underlying73 info9 rfl (by decide) (by omega) u183001 x183001_1 t185 [.string t185] (fun _ => True) (fun _ => False) rfl rfl ?aP (fun _ hk => hk.elim) ?aF ?aO (Below.refl _ _) ?aS ?aL ?_
     (case aP => exact rfl)
     (case aF => exact (fun _ _ => trivial))
     (case aO => exact (Up.Rup HO_183001))
     (case aS => exact (keep_size (w:=w) (g:=g) (row:=none) (by repeat (first | (with_reducible first | exact HK.out | apply KeepBut.set_ | apply keep_drewN | apply keep_drew | apply keep_alloc | refine keep_far ?_ GW176.out _ | refine keep_far ?_ GW182.out _) | exact HK.out))))
     (case aL => have:=LMc17.out;omega)
     intro v188 w20 ho hb hg hat
     rw [← Ny187.out] at ho
     have n0_:=Aside0.mk (blk_grown (g:=gb176) (o:=.cells #[.int .i64 0,.slice none 0 0] 81 (0,0)) (Up.Kup BK176) hg (Kd.R_ne HO_183001.out BK176.out (by decide)))
     have n1_:=Aside0.mk (blk_grown (g:=gb182) (o:=.cells #[.int .i64 t180,u183001] 81 (0,0)) (Up.Kup BK182) hg (Kd.R_ne HO_183001.out BK182.out (by decide)))
     have n2_:=Aside0.mk (IsS79.grown (by repeat (first | (with_reducible first | exact HI0.out | apply IsS79.alloc | apply IsS79.drewN | apply IsS79.drew | apply IsS79.set_1 | refine IsS79.far ?_ NB0_176.out _ | refine IsS79.far ?_ NB0_182.out _) | exact HI0.out)) hg (IsS79.own_ne HI0.out HO_183001.out (by decide)))
     have n3_:=Aside0.mk (below_weaken (by repeat (first | (with_reducible first | exact HB.out | apply below_alloc | apply pw_below_drewN | apply below_drew1 | refine below_set ?_ (IsS79.ge HI0.out) | refine below_set ?_ GE176.out | refine below_set ?_ GE182.out) | exact HB.out)) HL.out hb)
     have n4_:=Aside0.mk (KeepBut.trans (by repeat (first | (with_reducible first | exact HK.out | apply KeepBut.set_ | apply keep_drewN | apply keep_drew | apply keep_alloc | refine keep_far ?_ GW176.out _ | refine keep_far ?_ GW182.out _) | exact HK.out)) (KeepBut.of_grown hg g) (Kd.R_base2 HO_183001.out))
     have n5_:=Aside0.mk (ho)
     clear BK176
     clear BK182
     clear HI0
     clear HB
     clear HK
     clear HO_183001
     have BK176:=n0_
     have BK182:=n1_
     have HI0:=n2_
     have HB:=n3_
     have HK:=n4_
     have HO189:=n5_
     clear n0_ n1_ n2_ n3_ n4_ n5_
     clear ho hb hg hat
     obtain ⟨Ao21,co21,eo21⟩:=Kd.R_slice HO189.out
     (first | subst eo21 | (injection eo21 with f1_ f2_ f3_;have f4_:=f1_.symm;have f5_:=f3_.symm;clear f1_ f2_ f3_;subst f4_;subst f5_))
     refine hK.out _ _ ⟨Up.c0 BK182,Up.c1 BK182⟩ (fun hHeld => ?_)
     clear hK K
     refine Up.nm 23 ?_
     refine Up.pu 7 (some 24) HT_ ?_
     refine last_ (i:=8) (N:=none) #[true,true,true,true,true,true,true,true,true] rfl rfl (one_of HT_.out (by kernel_rfl)) (by decide) (fun K hK => ?_)
     have hs22:=Up.c1 BK182
     have hfs22:=blk_frozen BK182.out 1
     have hns22_0:=NB176_182.out
     have hms22_0:=NB182_176.out
     refine skip_ (w1:=?_) (by rfl) rfl ?_ ?_
     rotate_left
     ·go_simp
      rfl
     refine hK.out _ _ ?_
     clear hK K
     refine done_ (done_of HT_.out (by kernel_rfl)) ?_
     try go_wp2
     go_roundg k1
     case measure => have:=HK1.out;omega
     case rel => exact ⟨(wrap64 (x6_1 - 1)),(t186),(y187),(.slice Ao21 y187.length co21),(by first | rfl | (simp;done) | (simp [*];done)),H',⟨by have:=HK1.out;omega⟩,⟨by (with_reducible repeat (first | apply Kd.R_alloc | apply Kd.R_drewN | apply Kd.R_drew));exact Kd.R_mono (Kd.R_far (p:=⟨gb182,1,none⟩) (Kd.R_types HO189.out BK182.out (by decide)) (fun _ hk => hk.2) (.slice Ao21 y187.length co21)) (fun _ hk => trivial)⟩,⟨by (with_reducible repeat (first | refine blk_drewN ?_ _ | refine blk_drew ?_ | refine blk_alloc ?_ _));refine blk_far ?_ NB176_182.out _;(with_reducible repeat (first | refine blk_drewN ?_ _ | refine blk_drew ?_ | refine blk_alloc ?_ _));exact BK176.out⟩,⟨by (with_reducible repeat (first | refine blk_drewN ?_ _ | refine blk_drew ?_ | refine blk_alloc ?_ _));refine blk_put (cs:=#[.int .i64 t180,u183001]) ?_ 1 _ rfl;(with_reducible repeat (first | refine blk_drewN ?_ _ | refine blk_drew ?_ | refine blk_alloc ?_ _));exact BK182.out⟩,⟨by repeat (first | (with_reducible first | exact HI0.out | apply IsS79.alloc | apply IsS79.drewN | apply IsS79.drew | apply IsS79.set_1 | refine IsS79.far ?_ NB0_176.out _ | refine IsS79.far ?_ NB0_182.out _) | exact HI0.out)⟩,⟨by repeat (first | (with_reducible first | exact HK.out | apply KeepBut.set_ | apply keep_drewN | apply keep_drew | apply keep_alloc | refine keep_far ?_ GW176.out _ | refine keep_far ?_ GW182.out _) | exact HK.out)⟩,⟨by repeat (first | (with_reducible first | exact HB.out | apply below_alloc | apply pw_below_drewN | apply below_drew1 | refine below_set ?_ (IsS79.ge HI0.out) | refine below_set ?_ GE176.out | refine below_set ?_ GE182.out) | exact HB.out)⟩⟩
    ·rw [if_neg c17] at H
     exact absurd H (by simp)
   ·rw [if_neg c15] at H
    have c15b0 : decide (0 < x6_1) = false:=decide_eq_false c15
    clear c15
    replace H:=Option.bind_eq_some_iff.mp H
    obtain ⟨⟨t190,t191⟩,A230,H⟩:=H
    replace H : (if t190 = 0 then ((spec_l91Num.f k1 s0_0 t191 (([(-1),16,1,5] : List Int))).bind fun bt195 => (spec_l91Record.j1 k1 s0_0 bt195.2 bt195.1 x183001_1)) else (spec_l91Record.j1 k1 s0_0 t191 t180 x183001_1)) = some (r1,r2,r3):=H
    have A23:=Aside0.mk A230
    clear A230
    have HC24:=Aside0.mk H
    clear H
    go_upto_if 27 with (first | ((with_reducible refine gate_callee (f:=46) rfl ?_);refine Up.gl (some 26) Tryd.func46 #[.pointer (some ⟨g,0,none⟩),.int .i64 12] ?_;(with_reducible refine (spec_l6Rd_pick.calls k1 g s0_0 x1001_1 12 t190 t191 w0 _ ?side1 ?side2 A23.out).mono ?_);(case side1 => repeat (first | (with_reducible first | exact HI0.out | apply IsS79.alloc | apply IsS79.drewN | apply IsS79.drew | apply IsS79.set_1 | refine IsS79.far ?_ NB0_176.out _ | refine IsS79.far ?_ NB0_182.out _) | exact HI0.out));(case side2 => repeat (first | (with_reducible first | exact HB.out | apply below_alloc | apply pw_below_drewN | apply below_drew1 | refine below_set ?_ (IsS79.ge HI0.out) | refine below_set ?_ GE176.out | refine below_set ?_ GE182.out) | exact HB.out));rintro e w25 ⟨rfl,hi,hb,hk⟩;refine ⟨_,rfl,?_⟩;have n0_:=Aside0.mk (Kd.R_mono (Kd.R_keep (IsS79.apart (show IsS79 w0 _ g s0_0 x1001_1 from by repeat (first | (with_reducible first | exact HI0.out | apply IsS79.alloc | apply IsS79.drewN | apply IsS79.drew | apply IsS79.set_1 | refine IsS79.far ?_ NB0_176.out _ | refine IsS79.far ?_ NB0_182.out _) | exact HI0.out)) (Up.Rup HO_183001) (by decide)) hk (fun _ h => h.2)) (fun _ h => h.1));have n1_:=Aside0.mk (KeepBut.blk hk (g':=gb176) (o:=.cells #[.int .i64 0,.slice none 0 0] 81 (0,0)) (Up.Kup BK176) NB176_0.out (by simp));have n2_:=Aside0.mk (KeepBut.blk hk (g':=gb182) (o:=.cells #[.int .i64 t180,u183001] 81 (0,0)) (Up.Kup BK182) NB182_0.out (by simp));have n3_:=Aside0.mk (KeepBut.trans (by repeat (first | (with_reducible first | exact HK.out | apply KeepBut.set_ | apply keep_drewN | apply keep_drew | apply keep_alloc | refine keep_far ?_ GW176.out _ | refine keep_far ?_ GW182.out _) | exact HK.out)) hk (.inl rfl));have n4_:=Aside0.mk (hb);have n5_:=Aside0.mk (hi);clear HO_183001 BK176 BK182 HK HB HI0;have HO_183001:=n0_;have BK176:=n1_;have BK182:=n2_;have HK:=n3_;have HB:=n4_;have HI0:=n5_;clear n0_ n1_ n2_ n3_ n4_ n5_;(try clear hb);(try clear hb2);(try clear hk);(try clear hi)))
    (try simp only [Act.put,List.setIfInBounds_toArray,List.set_cons_zero,List.set_cons_succ])
    go_cut [] (fun wc => ∃ (kq : Nat) (x1001_23 : Int) (x183000_23 : Int),Aside0 (spec_l91Record.j1 kq s0_0 x1001_23 x183000_23 x183001_1 = some (r1,r2,r3)) ∧ Aside0 (kq ≤ k1) ∧ Aside0 (Kd.R Kd.string 9 wc w.heap.size (fun _ => True) u183001 x183001_1) ∧ Aside0 (wc.heap[gb176]? = some (.cells #[.int .i64 0,(.slice none 0 0)] 81 (0,0))) ∧ Aside0 (wc.heap[gb182]? = some (.cells #[.int .i64 x183000_23,u183001] 81 (0,0))) ∧ Aside0 (IsS79 w0 wc g s0_0 x1001_23) ∧ Aside0 (KeepBut w wc g none) ∧ Aside0 (Below w0.heap.size w0 wc))
    case first =>
     have H:=HC24.out
     clear HC24
     by_cases c26 : t190 = 0
     ·rw [if_pos c26] at H
      have c26b0 : (t190 == 0) = true:=beq_iff_eq.mpr c26
      have c26b1 : (t190 != 0) = false:=bne_eq_false_iff_eq.mpr c26
      clear c26
      (first | rw [c26b0] | (simp only [i64_w,i32_w];rw [c26b0]) | skip)
      obtain ⟨y192,hy192⟩ : ∃ y_ : List Int,y_ = (([(-1),16,1,5] : List Int)):=⟨_,rfl⟩
      replace H : ((spec_l91Num.f k1 s0_0 t191 y192).bind fun bt195 => (spec_l91Record.j1 k1 s0_0 bt195.2 bt195.1 x183001_1)) = some (r1,r2,r3):=by first | (rw [hy192];with_reducible exact H) | (have H2_:=(Option.bind_some _ _).symm.trans H;rw [hy192];with_reducible exact H2_) | (have H2_:=(Option.bind_some _ _).symm.trans H;with_reducible exact H2_) | with_reducible exact H | (rw [hy192];exact H) | exact H
      have Ny192:=Aside0.mk hy192
      clear hy192
      replace H:=Option.bind_eq_some_iff.mp H
      obtain ⟨⟨t195,t196⟩,A270,H⟩:=H
      replace H : (spec_l91Record.j1 k1 s0_0 t196 t195 x183001_1) = some (r1,r2,r3):=H
      have A27:=Aside0.mk A270
      clear A270
      have H':=Aside0.mk H
      clear H
      go_wp2_with (first | ((with_reducible refine gate_dst (N:=29) rfl ?_);refine Kd.R_lit (Kd.int .i64) _ 3 ?hg (N:=29) ?hd (xs:=([(-1),16,1,5] : List Int)) (inner:=[.int .i64 (-1),.int .i64 16,.int .i64 1,.int .i64 5]) (ok:=fun _ => True) (okp:=fun _ => True) ?hr ?hp (fun _ hk => hk) trivial (Below.refl _ _) (Nat.le_refl _) (by simp) ?_;(case hd => rfl);(case hg => rfl);(case hr => first | (go_simp;done) | (go_simp;rfl));(case hp => exact (Reps.one (show Kd.M (Kd.int .i64) _ _ _ (-1) [.int .i64 (-1)] from rfl) (Reps.one (show Kd.M (Kd.int .i64) _ _ _ 16 [.int .i64 16] from rfl) (Reps.one (show Kd.M (Kd.int .i64) _ _ _ 1 [.int .i64 1] from rfl) (Reps.one (show Kd.M (Kd.int .i64) _ _ _ 5 [.int .i64 5] from rfl) (Reps.none _ _))))));intro v193 w28 ho29 hb hg_ hnew_;clear hg_ hnew_;(first | rw [← Ny192.out] at ho29 | (simp only [Int.reduceToNat] at ho29;rw [← Ny192.out] at ho29));have n0_:=Up.RB HO_183001 hb;have n1_:=Aside0.mk (Kd.R_lower ho29 (keep_size (w:=w) (g:=g) (row:=none) (by repeat (first | (with_reducible first | exact HK.out | apply KeepBut.set_ | apply keep_drewN | apply keep_drew | apply keep_alloc | refine keep_far ?_ GW176.out _ | refine keep_far ?_ GW182.out _) | exact HK.out))));have n2_:=Up.KB BK176 hb;have n3_:=Up.KB BK182 hb;have n4_:=Aside0.mk (IsS79.below (by repeat (first | (with_reducible first | exact HI0.out | apply IsS79.alloc | apply IsS79.drewN | apply IsS79.drew | apply IsS79.set_1 | refine IsS79.far ?_ NB0_176.out _ | refine IsS79.far ?_ NB0_182.out _) | exact HI0.out)) hb);have n5_:=Aside0.mk (KeepBut.trans (by repeat (first | (with_reducible first | exact HK.out | apply KeepBut.set_ | apply keep_drewN | apply keep_drew | apply keep_alloc | refine keep_far ?_ GW176.out _ | refine keep_far ?_ GW182.out _) | exact HK.out)) (KeepBut.of_below hb g none) (.inl rfl));have n6_:=Aside0.mk (below_step (by repeat (first | (with_reducible first | exact HB.out | apply below_alloc | apply pw_below_drewN | apply below_drew1 | refine below_set ?_ (IsS79.ge HI0.out) | refine below_set ?_ GE176.out | refine below_set ?_ GE182.out) | exact HB.out)) hb);clear HO_183001 BK176 BK182 HI0 HK HB;have HO_183001:=n0_;have HO194:=n1_;have BK176:=n2_;have BK182:=n3_;have HI0:=n4_;have HK:=n5_;have HB:=n6_;clear n0_ n1_ n2_ n3_ n4_ n5_ n6_ hb ho29;obtain ⟨Ao30,co30,eo30⟩:=Kd.R_slice HO194.out;subst eo30) | ((with_reducible refine gate_callee (f:=50) rfl ?_);refine Up.gl (some 30) Tryd.func50 #[.pointer (some ⟨g,0,none⟩),.slice Ao30 y192.length co30] ?_;(with_reducible refine (spec_l91Num.calls k1 g s0_0 t191 _ _ y192 t195 t196 w0 _ ?side1 ?side2 ?side3 ?side4 ?side5 A27.out).mono ?_);(case side1 => repeat (first | (with_reducible first | exact HI0.out | apply IsS79.alloc | apply IsS79.drewN | apply IsS79.drew | apply IsS79.set_1 | refine IsS79.far ?_ NB0_176.out _ | refine IsS79.far ?_ NB0_182.out _) | exact HI0.out));(case side2 => repeat (first | (with_reducible first | exact HB.out | apply below_alloc | apply pw_below_drewN | apply below_drew1 | refine below_set ?_ (IsS79.ge HI0.out) | refine below_set ?_ GE176.out | refine below_set ?_ GE182.out) | exact HB.out));(case side3 => repeat (first | exact (Kd.R_reads' HO194.out).2.2 | (with_reducible refine Kd.C_alloc ?_ _) | (with_reducible refine Kd.C_drewN ?_ _) | (with_reducible refine Kd.C_drew ?_)));(case side4 => exact (Kd.R_reads' HO194.out).2.1);(case side5 => exact far_slice (IsS79.own_ne HI0.out HO194.out (by decide)));rintro e w31 ⟨rfl,hi,hb,hk⟩;refine ⟨_,rfl,?_⟩;have n0_:=Aside0.mk (Kd.R_mono (Kd.R_keep (IsS79.apart (show IsS79 w0 _ g s0_0 t191 from by repeat (first | (with_reducible first | exact HI0.out | apply IsS79.alloc | apply IsS79.drewN | apply IsS79.drew | apply IsS79.set_1 | refine IsS79.far ?_ NB0_176.out _ | refine IsS79.far ?_ NB0_182.out _) | exact HI0.out)) (Up.Rup HO_183001) (by decide)) hk (fun _ h => h.2)) (fun _ h => h.1));have n1_:=Aside0.mk (KeepBut.blk hk (g':=gb176) (o:=.cells #[.int .i64 0,.slice none 0 0] 81 (0,0)) (Up.Kup BK176) NB176_0.out (by simp));have n2_:=Aside0.mk (KeepBut.blk hk (g':=gb182) (o:=.cells #[.int .i64 t180,u183001] 81 (0,0)) (Up.Kup BK182) NB182_0.out (by simp));have n3_:=Aside0.mk (Kd.R_mono (Kd.R_keep (IsS79.apart (show IsS79 w0 _ g s0_0 t191 from by repeat (first | (with_reducible first | exact HI0.out | apply IsS79.alloc | apply IsS79.drewN | apply IsS79.drew | apply IsS79.set_1 | refine IsS79.far ?_ NB0_176.out _ | refine IsS79.far ?_ NB0_182.out _) | exact HI0.out)) (Up.Rup HO194) (by decide)) hk (fun _ h => h.2)) (fun _ h => h.1));have n4_:=Aside0.mk (KeepBut.trans (by repeat (first | (with_reducible first | exact HK.out | apply KeepBut.set_ | apply keep_drewN | apply keep_drew | apply keep_alloc | refine keep_far ?_ GW176.out _ | refine keep_far ?_ GW182.out _) | exact HK.out)) hk (.inl rfl));have n5_:=Aside0.mk (hb);have n6_:=Aside0.mk (hi);clear HO_183001 BK176 BK182 HO194 HK HB HI0;have HO_183001:=n0_;have BK176:=n1_;have BK182:=n2_;have HO194:=n3_;have HK:=n4_;have HB:=n5_;have HI0:=n6_;clear n0_ n1_ n2_ n3_ n4_ n5_ n6_;(try clear hb);(try clear hb2);(try clear hk);(try clear hi);have hnb32:=NB182_176.out;have hnc32:=NB176_182.out;have hnb33:=NB182_0.out;have hnc33:=NB0_182.out;have hcz34_0:=Up.c0 BK182;have hcz34_1:=Up.c1 BK182;have hfz34_0:=blk_frozen BK182.out 0;have hfz34_1:=blk_frozen BK182.out 1))
      go_meet
      case rel => exact ⟨_,(t196),(t195),H',⟨by have:=HK1.out;first | omega | exact Nat.le_refl _⟩,⟨by (with_reducible repeat (first | apply Kd.R_alloc | apply Kd.R_drewN | apply Kd.R_drew));exact Kd.R_mono (Kd.R_far (p:=⟨gb182,0,none⟩) (Kd.R_types HO_183001.out BK182.out (by decide)) (fun _ hk => hk.2) (.int .i64 t195)) (fun _ hk => trivial)⟩,⟨by (with_reducible repeat (first | refine blk_drewN ?_ _ | refine blk_drew ?_ | refine blk_alloc ?_ _));refine blk_far ?_ NB176_182.out _;(with_reducible repeat (first | refine blk_drewN ?_ _ | refine blk_drew ?_ | refine blk_alloc ?_ _));exact BK176.out⟩,⟨by (with_reducible repeat (first | refine blk_drewN ?_ _ | refine blk_drew ?_ | refine blk_alloc ?_ _));refine blk_put (cs:=#[.int .i64 t180,u183001]) ?_ 0 _ rfl;(with_reducible repeat (first | refine blk_drewN ?_ _ | refine blk_drew ?_ | refine blk_alloc ?_ _));exact BK182.out⟩,⟨by repeat (first | (with_reducible first | exact HI0.out | apply IsS79.alloc | apply IsS79.drewN | apply IsS79.drew | apply IsS79.set_1 | refine IsS79.far ?_ NB0_176.out _ | refine IsS79.far ?_ NB0_182.out _) | exact HI0.out)⟩,⟨by repeat (first | (with_reducible first | exact HK.out | apply KeepBut.set_ | apply keep_drewN | apply keep_drew | apply keep_alloc | refine keep_far ?_ GW176.out _ | refine keep_far ?_ GW182.out _) | exact HK.out)⟩,⟨by repeat (first | (with_reducible first | exact HB.out | apply below_alloc | apply pw_below_drewN | apply below_drew1 | refine below_set ?_ (IsS79.ge HI0.out) | refine below_set ?_ GE176.out | refine below_set ?_ GE182.out) | exact HB.out)⟩⟩
     ·rw [if_neg c26] at H
      have c26b0 : (t190 == 0) = false:=beq_eq_false_iff_ne.mpr c26
      have c26b1 : (t190 != 0) = true:=bne_iff_ne.mpr c26
      (first | rw [c26b0] | (simp only [i64_w,i32_w];rw [c26b0]) | skip)
      have H':=Aside0.mk H
      clear H
      go_wp2
      go_meet
      case rel => exact ⟨_,(t191),(t180),H',⟨by have:=HK1.out;first | omega | exact Nat.le_refl _⟩,⟨Up.Rup HO_183001⟩,⟨by (with_reducible repeat (first | refine blk_drewN ?_ _ | refine blk_drew ?_ | refine blk_alloc ?_ _));exact BK176.out⟩,⟨by (with_reducible repeat (first | refine blk_drewN ?_ _ | refine blk_drew ?_ | refine blk_alloc ?_ _));exact BK182.out⟩,⟨by repeat (first | (with_reducible first | exact HI0.out | apply IsS79.alloc | apply IsS79.drewN | apply IsS79.drew | apply IsS79.set_1 | refine IsS79.far ?_ NB0_176.out _ | refine IsS79.far ?_ NB0_182.out _) | exact HI0.out)⟩,⟨by repeat (first | (with_reducible first | exact HK.out | apply KeepBut.set_ | apply keep_drewN | apply keep_drew | apply keep_alloc | refine keep_far ?_ GW176.out _ | refine keep_far ?_ GW182.out _) | exact HK.out)⟩,⟨by repeat (first | (with_reducible first | exact HB.out | apply below_alloc | apply pw_below_drewN | apply below_drew1 | refine below_set ?_ (IsS79.ge HI0.out) | refine below_set ?_ GE176.out | refine below_set ?_ GE182.out) | exact HB.out)⟩⟩
    case rest =>
     clear HC24
     try clear c1
     try clear c2
     try clear p2
     try clear c3
     try clear c4
     try clear c5
     try clear p6
     try clear c11
     try clear c12
     try clear c15
     try clear c15b0
     try clear c17
     try clear c26
     try clear c26b0
     try clear c26b1
     try clear c27
     try clear c32
     try clear c33
     try clear hcz13_0
     try clear hcz13_1
     try clear hcz34_0
     try clear hcz34_1
     try clear hfz13_0
     try clear hfz13_1
     try clear hfz34_0
     try clear hfz34_1
     try clear p2
     obtain ⟨kq,x1001_23,x183000_23,HA,HJ23,HO_183001,BK176,BK182,HI0,HK,HB⟩:=hcut
     cases kq with
     | zero => exact absurd HA.out (by simp [spec_l91Record.j1])
     | succ kj23 =>
      have H:=HA.out
      clear HA
      simp only [spec_l91Record.j1] at H
      replace H:=Option.bind_eq_some_iff.mp H
      obtain ⟨⟨t197,t198⟩,A350,H⟩:=H
      replace H : (if t197 = 0 then ((spec_l6Rd_of.f kj23 s0_0 t198 (([(⟨#[120]⟩ : ByteArray),(⟨#[]⟩ : ByteArray),(⟨#[83,48,57]⟩ : ByteArray),(⟨#[38,110]⟩ : ByteArray),(⟨#[83]⟩ : ByteArray)] : List ByteArray))).bind fun bt202 => (if x183001_1.length < 8796093022208 then (some (x183000_23,(x183001_1 ++ [bt202.1]),bt202.2)) else (none))) else (some (x183000_23,x183001_1,t198))) = some (r1,r2,r3):=H
      have A35:=Aside0.mk A350
      clear A350
      by_cases c36 : t197 = 0
      ·rw [if_pos c36] at H
       have c36b0 : (t197 == 0) = true:=beq_iff_eq.mpr c36
       have c36b1 : (t197 != 0) = false:=bne_eq_false_iff_eq.mpr c36
       clear c36
       obtain ⟨y199,hy199⟩ : ∃ y_ : List ByteArray,y_ = (([(⟨#[120]⟩ : ByteArray),(⟨#[]⟩ : ByteArray),(⟨#[83,48,57]⟩ : ByteArray),(⟨#[38,110]⟩ : ByteArray),(⟨#[83]⟩ : ByteArray)] : List ByteArray)):=⟨_,rfl⟩
       replace H : ((spec_l6Rd_of.f kj23 s0_0 t198 y199).bind fun bt202 => (if x183001_1.length < 8796093022208 then (some (x183000_23,(x183001_1 ++ [bt202.1]),bt202.2)) else (none))) = some (r1,r2,r3):=by first | (rw [hy199];with_reducible exact H) | (have H2_:=(Option.bind_some _ _).symm.trans H;rw [hy199];with_reducible exact H2_) | (have H2_:=(Option.bind_some _ _).symm.trans H;with_reducible exact H2_) | with_reducible exact H | (rw [hy199];exact H) | exact H
       have Ny199:=Aside0.mk hy199
       clear hy199
       replace H:=Option.bind_eq_some_iff.mp H
       obtain ⟨⟨t202,t203⟩,A370,H⟩:=H
       replace H : (if x183001_1.length < 8796093022208 then (some (x183000_23,(x183001_1 ++ [t202]),t203)) else (none)) = some (r1,r2,r3):=H
       have A37:=Aside0.mk A370
       clear A370
       by_cases c38 : x183001_1.length < 8796093022208
       ·rw [if_pos c38] at H
        have LMc38:=Aside0.mk c38
        clear c38
        obtain ⟨y204,hy204⟩ : ∃ y_ : List ByteArray,y_ = (x183001_1 ++ [t202]):=⟨_,rfl⟩
        replace H : (some (x183000_23,y204,t203)) = some (r1,r2,r3):=by first | (rw [hy204];with_reducible exact H) | (have H2_:=(Option.bind_some _ _).symm.trans H;rw [hy204];with_reducible exact H2_) | (have H2_:=(Option.bind_some _ _).symm.trans H;with_reducible exact H2_) | with_reducible exact H | (rw [hy204];exact H) | exact H
        have Ny204:=Aside0.mk hy204
        clear hy204
        simp only [Option.some.injEq,Prod.mk.injEq] at H
        obtain ⟨rfl,rfl,rfl⟩:=H
        try go_wp2_with (first | ((with_reducible refine gate_callee (f:=46) rfl ?_);refine Up.gl (some 33) Tryd.func46 #[.pointer (some ⟨g,0,none⟩),.int .i64 15] ?_;(with_reducible refine (spec_l6Rd_pick.calls kj23 g s0_0 x1001_23 15 t197 t198 w0 _ ?side1 ?side2 A35.out).mono ?_);(case side1 => repeat (first | (with_reducible first | exact HI0.out | apply IsS79.alloc | apply IsS79.drewN | apply IsS79.drew | apply IsS79.set_1 | refine IsS79.far ?_ NB0_176.out _ | refine IsS79.far ?_ NB0_182.out _) | exact HI0.out));(case side2 => repeat (first | (with_reducible first | exact HB.out | apply below_alloc | apply pw_below_drewN | apply below_drew1 | refine below_set ?_ (IsS79.ge HI0.out) | refine below_set ?_ GE176.out | refine below_set ?_ GE182.out) | exact HB.out));rintro e w39 ⟨rfl,hi,hb,hk⟩;refine ⟨_,rfl,?_⟩;have n0_:=Aside0.mk (Kd.R_mono (Kd.R_keep (IsS79.apart (show IsS79 w0 _ g s0_0 x1001_23 from by repeat (first | (with_reducible first | exact HI0.out | apply IsS79.alloc | apply IsS79.drewN | apply IsS79.drew | apply IsS79.set_1 | refine IsS79.far ?_ NB0_176.out _ | refine IsS79.far ?_ NB0_182.out _) | exact HI0.out)) (Up.Rup HO_183001) (by decide)) hk (fun _ h => h.2)) (fun _ h => h.1));have n1_:=Aside0.mk (KeepBut.blk hk (g':=gb176) (o:=.cells #[.int .i64 0,.slice none 0 0] 81 (0,0)) (Up.Kup BK176) NB176_0.out (by simp));have n2_:=Aside0.mk (KeepBut.blk hk (g':=gb182) (o:=.cells #[.int .i64 x183000_23,u183001] 81 (0,0)) (Up.Kup BK182) NB182_0.out (by simp));have n3_:=Aside0.mk (KeepBut.trans (by repeat (first | (with_reducible first | exact HK.out | apply KeepBut.set_ | apply keep_drewN | apply keep_drew | apply keep_alloc | refine keep_far ?_ GW176.out _ | refine keep_far ?_ GW182.out _) | exact HK.out)) hk (.inl rfl));have n4_:=Aside0.mk (hb);have n5_:=Aside0.mk (hi);clear HO_183001 BK176 BK182 HK HB HI0;have HO_183001:=n0_;have BK176:=n1_;have BK182:=n2_;have HK:=n3_;have HB:=n4_;have HI0:=n5_;clear n0_ n1_ n2_ n3_ n4_ n5_;(try clear hb);(try clear hb2);(try clear hk);(try clear hi)))
        have n0_:=Aside0.mk (Kd.R_drew HO_183001.out)
        have n1_:=Aside0.mk (blk_drew BK176.out)
        have n2_:=Aside0.mk (blk_drew BK182.out)
        have n3_:=Aside0.mk (IsS79.drew HI0.out)
        have n4_:=Aside0.mk (keep_drew HK.out)
        have n5_:=Aside0.mk (below_drew1 HB.out)
        clear HO_183001
        clear BK176
        clear BK182
        clear HI0
        clear HK
        clear HB
        have HO_183001:=n0_
        have BK176:=n1_
        have BK182:=n2_
        have HI0:=n3_
        have HK:=n4_
        have HB:=n5_
        clear n0_ n1_ n2_ n3_ n4_ n5_
        refine start_ (n:=9) (S:=fun w' => w'.cell? ⟨gb182,0,none⟩ = some (.int .i64 x183000_23) ∧ w'.cell? ⟨gb182,1,none⟩ = some (u183001)) (ds:=[8]) #[false,false,false,false,false,false,false,false,false] (by kernel_rfl) rfl rfl ⟨Up.c0 BK182,Up.c1 BK182⟩ (fun hHeld => ?_);refine with_tabW spec_l91Record.tab9 spec_l91Record.bits9 (fun HT_ HW_ => ?_)
        generalize w39.drew = w40 at HO_183001 BK176 BK182 HI0 HK HB hHeld ⊢
        refine Up.pu 0 (some 35) HT_ ?_
        refine Up.pu 2 (some 37) HT_ ?_
        refine Up.tk 1 (some 36) HT_ HW_ hHeld ?_ (hy:=by rintro w' ⟨s0,s1⟩;go_simp;with_reducible rfl)
        refine Up.on 3 (some 38) HT_ (fun K hK => ?_)
        refine Kd.R_lit_step Kd.string _ 9 ?hg (N:=38) ?hd (xs:=([(⟨#[120]⟩ : ByteArray),(⟨#[]⟩ : ByteArray),(⟨#[83,48,57]⟩ : ByteArray),(⟨#[38,110]⟩ : ByteArray),(⟨#[83]⟩ : ByteArray)] : List ByteArray)) (inner:=[.string (⟨#[120]⟩ : ByteArray),.string (⟨#[]⟩ : ByteArray),.string (⟨#[83,48,57]⟩ : ByteArray),.string (⟨#[38,110]⟩ : ByteArray),.string (⟨#[83]⟩ : ByteArray)]) (ok:=fun _ => True) (okp:=fun _ => True) ?hr ?hp (fun _ hk => hk) trivial (Below.refl _ _) (Nat.le_refl _) (by simp) ?_;(case hd => rfl);(case hg => rfl);(case hr => first | (go_simp;done) | (go_simp;rfl));(case hp => exact (Reps.one (show Kd.M Kd.string _ _ _ (⟨#[120]⟩ : ByteArray) [.string (⟨#[120]⟩ : ByteArray)] from rfl) (Reps.one (show Kd.M Kd.string _ _ _ (⟨#[]⟩ : ByteArray) [.string (⟨#[]⟩ : ByteArray)] from rfl) (Reps.one (show Kd.M Kd.string _ _ _ (⟨#[83,48,57]⟩ : ByteArray) [.string (⟨#[83,48,57]⟩ : ByteArray)] from rfl) (Reps.one (show Kd.M Kd.string _ _ _ (⟨#[38,110]⟩ : ByteArray) [.string (⟨#[38,110]⟩ : ByteArray)] from rfl) (Reps.one (show Kd.M Kd.string _ _ _ (⟨#[83]⟩ : ByteArray) [.string (⟨#[83]⟩ : ByteArray)] from rfl) (Reps.none _ _)))))))
        intro v200 w41 ho42 hb hg_ hnew_
        clear hg_ hnew_
        (first | rw [← Ny199.out] at ho42 | (simp only [Int.reduceToNat] at ho42;rw [← Ny199.out] at ho42))
        have n0_:=Aside0.mk (Kd.R_elder' (Up.Rup HO_183001) (Kd.R_base ho42) hb)
        have n1_:=Aside0.mk (Kd.R_lower (Kd.R_new' ho42 (Kd.R_lt (Up.Rup HO_183001))) (keep_size (w:=w) (g:=g) (row:=none) (by repeat (first | (with_reducible first | exact HK.out | apply KeepBut.set_ | apply keep_drewN | apply keep_drew | apply keep_alloc | refine keep_far ?_ GW176.out _ | refine keep_far ?_ GW182.out _) | exact HK.out))))
        have n2_:=Up.KB BK176 hb
        have n3_:=Up.KB BK182 hb
        have n4_:=Aside0.mk (IsS79.below (by repeat (first | (with_reducible first | exact HI0.out | apply IsS79.alloc | apply IsS79.drewN | apply IsS79.drew | apply IsS79.set_1 | refine IsS79.far ?_ NB0_176.out _ | refine IsS79.far ?_ NB0_182.out _) | exact HI0.out)) hb)
        have n5_:=Aside0.mk (KeepBut.trans (by repeat (first | (with_reducible first | exact HK.out | apply KeepBut.set_ | apply keep_drewN | apply keep_drew | apply keep_alloc | refine keep_far ?_ GW176.out _ | refine keep_far ?_ GW182.out _) | exact HK.out)) (KeepBut.of_below hb g none) (.inl rfl))
        have n6_:=Aside0.mk (below_step (by repeat (first | (with_reducible first | exact HB.out | apply below_alloc | apply pw_below_drewN | apply below_drew1 | refine below_set ?_ (IsS79.ge HI0.out) | refine below_set ?_ GE176.out | refine below_set ?_ GE182.out) | exact HB.out)) hb)
        clear HO_183001
        clear BK176
        clear BK182
        clear HI0
        clear HK
        clear HB
        have HO_183001:=n0_
        have HO201:=n1_
        have BK176:=n2_
        have BK182:=n3_
        have HI0:=n4_
        have HK:=n5_
        have HB:=n6_
        clear n0_ n1_ n2_ n3_ n4_ n5_ n6_
        clear hb ho42
        obtain ⟨Ao43,co43,eo43⟩:=Kd.R_slice HO201.out
        (first | subst eo43 | (injection eo43 with f1_ f2_ f3_;have f4_:=f1_.symm;have f5_:=f3_.symm;clear f1_ f2_ f3_;subst f4_;subst f5_))
        refine hK.out _ _ ⟨Up.c0 BK182,Up.c1 BK182⟩ (fun hHeld => ?_)
        clear hK K
        refine Up.nm 38 ?_
        refine Up.on 4 (some 39) HT_ (fun K hK => ?_)
        refine Up.go Tryd.func47 #[.pointer (some ⟨g,0,none⟩),.slice Ao43 y199.length co43] ?_
        with_reducible refine (spec_l6Rd_of.calls kj23 g s0_0 t198 _ _ y199 t202 t203 w0 _ ?side1 ?side2 ?side3 ?side4 ?side5 A37.out).mono ?_
        (case side1 => repeat (first | (with_reducible first | exact HI0.out | apply IsS79.alloc | apply IsS79.drewN | apply IsS79.drew | apply IsS79.set_1 | refine IsS79.far ?_ NB0_176.out _ | refine IsS79.far ?_ NB0_182.out _) | exact HI0.out))
        (case side2 => repeat (first | (with_reducible first | exact HB.out | apply below_alloc | apply pw_below_drewN | apply below_drew1 | refine below_set ?_ (IsS79.ge HI0.out) | refine below_set ?_ GE176.out | refine below_set ?_ GE182.out) | exact HB.out))
        (case side3 => repeat (first | exact (Kd.R_reads' HO201.out).2.2 | (with_reducible refine Kd.C_alloc ?_ _) | (with_reducible refine Kd.C_drewN ?_ _) | (with_reducible refine Kd.C_drew ?_)))
        (case side4 => exact (Kd.R_reads' HO201.out).2.1)
        (case side5 => exact far_slice (IsS79.own_ne HI0.out HO201.out (by decide)))
        rintro e w44 ⟨rfl,hi,hb,hk⟩
        refine ⟨_,rfl,?_⟩
        have n0_:=Aside0.mk (Kd.R_mono (Kd.R_keep (IsS79.apart (show IsS79 w0 _ g s0_0 t198 from by repeat (first | (with_reducible first | exact HI0.out | apply IsS79.alloc | apply IsS79.drewN | apply IsS79.drew | apply IsS79.set_1 | refine IsS79.far ?_ NB0_176.out _ | refine IsS79.far ?_ NB0_182.out _) | exact HI0.out)) (Up.Rup HO_183001) (by decide)) hk (fun _ h => h.2)) (fun _ h => h.1))
        have n1_:=Aside0.mk (KeepBut.blk hk (g':=gb176) (o:=.cells #[.int .i64 0,.slice none 0 0] 81 (0,0)) (Up.Kup BK176) NB176_0.out (by simp))
        have n2_:=Aside0.mk (KeepBut.blk hk (g':=gb182) (o:=.cells #[.int .i64 x183000_23,u183001] 81 (0,0)) (Up.Kup BK182) NB182_0.out (by simp))
        have n3_:=Aside0.mk (Kd.R_mono (Kd.R_keep (IsS79.apart (show IsS79 w0 _ g s0_0 t198 from by repeat (first | (with_reducible first | exact HI0.out | apply IsS79.alloc | apply IsS79.drewN | apply IsS79.drew | apply IsS79.set_1 | refine IsS79.far ?_ NB0_176.out _ | refine IsS79.far ?_ NB0_182.out _) | exact HI0.out)) (Up.Rup HO201) (by decide)) hk (fun _ h => h.2)) (fun _ h => h.1))
        have n4_:=Aside0.mk (KeepBut.trans (by repeat (first | (with_reducible first | exact HK.out | apply KeepBut.set_ | apply keep_drewN | apply keep_drew | apply keep_alloc | refine keep_far ?_ GW176.out _ | refine keep_far ?_ GW182.out _) | exact HK.out)) hk (.inl rfl))
        have n5_:=Aside0.mk (hb)
        have n6_:=Aside0.mk (hi)
        clear HO_183001
        clear BK176
        clear BK182
        clear HO201
        clear HK
        clear HB
        clear HI0
        have HO_183001:=n0_
        have BK176:=n1_
        have BK182:=n2_
        have HO201:=n3_
        have HK:=n4_
        have HB:=n5_
        have HI0:=n6_
        clear n0_ n1_ n2_ n3_ n4_ n5_ n6_
        (try clear hb)
        (try clear hb2)
        (try clear hk)
        (try clear hi)
        refine hK.out _ _ ⟨Up.c0 BK182,Up.c1 BK182⟩ (fun hHeld => ?_)
        clear hK K
        refine Up.nm 39 ?_
        refine Up.on 5 (some 40) HT_ (fun K hK => ?_)
        refine value_ (w1:=?_) (v:=?_) (by rfl) rfl ?_ ?_
        rotate_left 2
        ·go_simp
         constructor
         ·rfl
         ·rfl
        refine hK.out _ _ ⟨(blk_cell (blk_alloc BK182.out _) 0).trans rfl,(blk_cell (blk_alloc BK182.out _) 1).trans rfl⟩ (fun hHeld => ?_)
        clear hK K
        refine Up.nm 40 ?_
        refine Up.on 6 (some 41) HT_ (fun K hK => ?_)
        refine Kd.R_append_step Kd.string w.heap.size (by rfl) (.tmp 36) (.tmp 40) 73 9 (.string ⟨#[]⟩) 16 rfl Tryd.underlying73 info9 rfl (by decide) (by omega) u183001 x183001_1 t202 [.string t202] (fun k_ => some k_ ≠ (.slice Ao43 y199.length co43 : Value).ownBlock) (fun _ => False) rfl rfl ?aP (fun _ hk => hk.elim) ?aF ?aO (Below.refl _ _) ?aS ?aL ?_
        (case aP => exact rfl)
        (case aF => exact (fun k_ hk => Kd.fresh' (Kd.R_lt (Up.Rup HO201)) k_ hk))
        (case aO => exact (Up.Rq (Kd.R_mono HO_183001.out (fun _ hk => hk.2))))
        (case aS => exact (keep_size (w:=w) (g:=g) (row:=none) (by repeat (first | (with_reducible first | exact HK.out | apply KeepBut.set_ | apply keep_drewN | apply keep_drew | apply keep_alloc | refine keep_far ?_ GW176.out _ | refine keep_far ?_ GW182.out _) | exact HK.out))))
        (case aL => have:=LMc38.out;omega)
        intro v205 w45 ho hb hg hat
        rw [← Ny204.out] at ho
        have n0_:=Aside0.mk (blk_grown (g:=gb176) (o:=.cells #[.int .i64 0,.slice none 0 0] 81 (0,0)) (Up.Kup BK176) hg (Kd.R_ne HO_183001.out BK176.out (by decide)))
        have n1_:=Aside0.mk (blk_grown (g:=gb182) (o:=.cells #[.int .i64 x183000_23,u183001] 81 (0,0)) (Up.Kup BK182) hg (Kd.R_ne HO_183001.out BK182.out (by decide)))
        have n2_:=Aside0.mk (IsS79.grown (by repeat (first | (with_reducible first | exact HI0.out | apply IsS79.alloc | apply IsS79.drewN | apply IsS79.drew | apply IsS79.set_1 | refine IsS79.far ?_ NB0_176.out _ | refine IsS79.far ?_ NB0_182.out _) | exact HI0.out)) hg (IsS79.own_ne HI0.out HO_183001.out (by decide)))
        have n3_:=Aside0.mk (Kd.R_after (ok:=(fun _ => True)) (Up.Rup HO201) hg hat)
        have n4_:=Aside0.mk (below_weaken (by repeat (first | (with_reducible first | exact HB.out | apply below_alloc | apply pw_below_drewN | apply below_drew1 | refine below_set ?_ (IsS79.ge HI0.out) | refine below_set ?_ GE176.out | refine below_set ?_ GE182.out) | exact HB.out)) HL.out hb)
        have n5_:=Aside0.mk (KeepBut.trans (by repeat (first | (with_reducible first | exact HK.out | apply KeepBut.set_ | apply keep_drewN | apply keep_drew | apply keep_alloc | refine keep_far ?_ GW176.out _ | refine keep_far ?_ GW182.out _) | exact HK.out)) (KeepBut.of_grown hg g) (Kd.R_base2 HO_183001.out))
        have n6_:=Aside0.mk (ho)
        clear BK176
        clear BK182
        clear HI0
        clear HO201
        clear HB
        clear HK
        clear HO_183001
        have BK176:=n0_
        have BK182:=n1_
        have HI0:=n2_
        have HO201:=n3_
        have HB:=n4_
        have HK:=n5_
        have HO206:=n6_
        clear n0_ n1_ n2_ n3_ n4_ n5_ n6_
        clear ho hb hg hat
        obtain ⟨Ao46,co46,eo46⟩:=Kd.R_slice HO206.out
        (first | subst eo46 | (injection eo46 with f1_ f2_ f3_;have f4_:=f1_.symm;have f5_:=f3_.symm;clear f1_ f2_ f3_;subst f4_;subst f5_))
        refine hK.out _ _ ⟨Up.c0 BK182,Up.c1 BK182⟩ (fun hHeld => ?_)
        clear hK K
        refine Up.nm 41 ?_
        refine Up.pu 7 (some 42) HT_ ?_
        refine last_ (i:=8) (N:=none) #[true,true,true,true,true,true,true,true,true] rfl rfl (one_of HT_.out (by kernel_rfl)) (by decide) (fun K hK => ?_)
        have hs47:=Up.c1 BK182
        have hfs47:=blk_frozen BK182.out 1
        have hns47_0:=NB176_182.out
        have hms47_0:=NB182_176.out
        refine skip_ (w1:=?_) (by rfl) rfl ?_ ?_
        rotate_left
        ·go_simp
         rfl
        refine hK.out _ _ ?_
        clear hK K
        refine done_ (done_of HT_.out (by kernel_rfl)) ?_
        have hnb48:=NB182_176.out
        have hnc48:=NB176_182.out
        have hnb49:=NB182_0.out
        have hnc49:=NB0_182.out
        have hcz50_0:=Up.c0 BK182
        have hcz50_1:=Up.c1 BK182
        have hfz50_0:=blk_frozen BK182.out 0
        have hfz50_1:=blk_frozen BK182.out 1
        have hnb51:=NB176_0.out
        have hnc51:=NB0_176.out
        have hcz52_0:=Up.c0 BK176
        have hcz52_1:=Up.c1 BK176
        have hfz52_0:=blk_frozen BK176.out 0
        have hfz52_1:=blk_frozen BK176.out 1
        try go_wp2
        refine bodyPost_ret (results_cell_row rfl _ _ gb176 81 #[.int .i64 x183000_23,.slice Ao46 y204.length co46] (0,0) _ rfl (Up.Kx BK176) Tryd.underlying81 rfl (by kernel_rfl)) rfl ?_
        exact ⟨_,by first | rfl | (simp [errW_none,errW_some] <;> rfl) | (simp [*,errW_none,errW_some] <;> rfl),by (with_reducible repeat (first | apply Kd.R_alloc | apply Kd.R_drewN | apply Kd.R_drew));exact Kd.R_mono (Kd.R_far (p:=⟨gb176,1,none⟩) (Kd.R_far (p:=⟨gb176,0,none⟩) (Kd.R_far (p:=⟨gb182,1,none⟩) (Kd.R_types (Kd.R_types HO206.out BK182.out (by decide)) BK176.out (by decide)) (fun _ hk => hk.1.2) (.slice Ao46 y204.length co46)) (fun _ hk => hk.2) (.int .i64 x183000_23)) (fun _ hk => hk.2) (.slice Ao46 y204.length co46)) (fun _ hk => trivial),by repeat (first | (with_reducible first | exact HI0.out | apply IsS79.alloc | apply IsS79.drewN | apply IsS79.drew | apply IsS79.set_1 | refine IsS79.far ?_ NB0_176.out _ | refine IsS79.far ?_ NB0_182.out _) | exact HI0.out),by repeat (first | (with_reducible first | exact HB.out | apply below_alloc | apply pw_below_drewN | apply below_drew1 | refine below_set ?_ (IsS79.ge HI0.out) | refine below_set ?_ GE176.out | refine below_set ?_ GE182.out) | exact HB.out),by repeat (first | (with_reducible first | exact HK.out | apply KeepBut.set_ | apply keep_drewN | apply keep_drew | apply keep_alloc | refine keep_far ?_ GW176.out _ | refine keep_far ?_ GW182.out _) | exact HK.out)⟩
       ·rw [if_neg c38] at H
        exact absurd H (by simp)
      ·rw [if_neg c36] at H
       have c36b0 : (t197 == 0) = false:=beq_eq_false_iff_ne.mpr c36
       have c36b1 : (t197 != 0) = true:=bne_iff_ne.mpr c36
       simp only [Option.some.injEq,Prod.mk.injEq] at H
       obtain ⟨rfl,rfl,rfl⟩:=H
       go_wp2_with (first | ((with_reducible refine gate_callee (f:=46) rfl ?_);refine Up.gl (some 33) Tryd.func46 #[.pointer (some ⟨g,0,none⟩),.int .i64 15] ?_;(with_reducible refine (spec_l6Rd_pick.calls kj23 g s0_0 x1001_23 15 t197 t198 w0 _ ?side1 ?side2 A35.out).mono ?_);(case side1 => repeat (first | (with_reducible first | exact HI0.out | apply IsS79.alloc | apply IsS79.drewN | apply IsS79.drew | apply IsS79.set_1 | refine IsS79.far ?_ NB0_176.out _ | refine IsS79.far ?_ NB0_182.out _) | exact HI0.out));(case side2 => repeat (first | (with_reducible first | exact HB.out | apply below_alloc | apply pw_below_drewN | apply below_drew1 | refine below_set ?_ (IsS79.ge HI0.out) | refine below_set ?_ GE176.out | refine below_set ?_ GE182.out) | exact HB.out));rintro e w53 ⟨rfl,hi,hb,hk⟩;refine ⟨_,rfl,?_⟩;have n0_:=Aside0.mk (Kd.R_mono (Kd.R_keep (IsS79.apart (show IsS79 w0 _ g s0_0 x1001_23 from by repeat (first | (with_reducible first | exact HI0.out | apply IsS79.alloc | apply IsS79.drewN | apply IsS79.drew | apply IsS79.set_1 | refine IsS79.far ?_ NB0_176.out _ | refine IsS79.far ?_ NB0_182.out _) | exact HI0.out)) (Up.Rup HO_183001) (by decide)) hk (fun _ h => h.2)) (fun _ h => h.1));have n1_:=Aside0.mk (KeepBut.blk hk (g':=gb176) (o:=.cells #[.int .i64 0,.slice none 0 0] 81 (0,0)) (Up.Kup BK176) NB176_0.out (by simp));have n2_:=Aside0.mk (KeepBut.blk hk (g':=gb182) (o:=.cells #[.int .i64 x183000_23,u183001] 81 (0,0)) (Up.Kup BK182) NB182_0.out (by simp));have n3_:=Aside0.mk (KeepBut.trans (by repeat (first | (with_reducible first | exact HK.out | apply KeepBut.set_ | apply keep_drewN | apply keep_drew | apply keep_alloc | refine keep_far ?_ GW176.out _ | refine keep_far ?_ GW182.out _) | exact HK.out)) hk (.inl rfl));have n4_:=Aside0.mk (hb);have n5_:=Aside0.mk (hi);clear HO_183001 BK176 BK182 HK HB HI0;have HO_183001:=n0_;have BK176:=n1_;have BK182:=n2_;have HK:=n3_;have HB:=n4_;have HI0:=n5_;clear n0_ n1_ n2_ n3_ n4_ n5_;(try clear hb);(try clear hb2);(try clear hk);(try clear hi);have hnb54:=NB182_176.out;have hnc54:=NB176_182.out;have hnb55:=NB182_0.out;have hnc55:=NB0_182.out;have hcz56_0:=Up.c0 BK182;have hcz56_1:=Up.c1 BK182;have hfz56_0:=blk_frozen BK182.out 0;have hfz56_1:=blk_frozen BK182.out 1;have hnb57:=NB176_0.out;have hnc57:=NB0_176.out;have hcz58_0:=Up.c0 BK176;have hcz58_1:=Up.c1 BK176;have hfz58_0:=blk_frozen BK176.out 0;have hfz58_1:=blk_frozen BK176.out 1;obtain ⟨Ao59,co59,eo59⟩:=Kd.R_slice HO_183001.out;subst eo59))
       refine bodyPost_ret (results_cell_row rfl _ _ gb176 81 #[.int .i64 x183000_23,.slice Ao59 x183001_1.length co59] (0,0) _ rfl (Up.Kx BK176) Tryd.underlying81 rfl (by kernel_rfl)) rfl ?_
       exact ⟨_,by first | rfl | (simp [errW_none,errW_some] <;> rfl) | (simp [*,errW_none,errW_some] <;> rfl),by (with_reducible repeat (first | apply Kd.R_alloc | apply Kd.R_drewN | apply Kd.R_drew));exact Kd.R_mono (Kd.R_far (p:=⟨gb176,1,none⟩) (Kd.R_far (p:=⟨gb176,0,none⟩) (Kd.R_types HO_183001.out BK176.out (by decide)) (fun _ hk => hk.2) (.int .i64 x183000_23)) (fun _ hk => hk.2) (.slice Ao59 x183001_1.length co59)) (fun _ hk => trivial),by repeat (first | (with_reducible first | exact HI0.out | apply IsS79.alloc | apply IsS79.drewN | apply IsS79.drew | apply IsS79.set_1 | refine IsS79.far ?_ NB0_176.out _ | refine IsS79.far ?_ NB0_182.out _) | exact HI0.out),by repeat (first | (with_reducible first | exact HB.out | apply below_alloc | apply pw_below_drewN | apply below_drew1 | refine below_set ?_ (IsS79.ge HI0.out) | refine below_set ?_ GE176.out | refine below_set ?_ GE182.out) | exact HB.out),by repeat (first | (with_reducible first | exact HK.out | apply KeepBut.set_ | apply keep_drewN | apply keep_drew | apply keep_alloc | refine keep_far ?_ GW176.out _ | refine keep_far ?_ GW182.out _) | exact HK.out)⟩

end Go.Proofs.YtdgmlakgnbmbbaaDoor.OFnValueOk
