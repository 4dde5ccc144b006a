-- Laid by a program of this session (wip/myprint.py): the kit's print of the functions, contracts of our own among them.
import Derived.Test.YtdgmlakgnbmbbaaDoorOFnValueOkx0
import Derived.Test.YtdgmlakgnbmbbaaDoorOFnValueOkx1
import Derived.Test.YtdgmlakgnbmbbaaDoorOFnValueOkx3
namespace Go.Proofs.YtdgmlakgnbmbbaaDoor.OFnValueOk
open Go.RowKit Go.Proofs.YtdgmlakgnbmbbaaDoorW.PrintWords Go.Proofs.YtdgmlakgnbmbbaaDoorW.PrintLast Go.Proofs.YtdgmlakgnbmbbaaDoorW.PrintMore
attribute [local go_sem] max2_int min2_int max_two min_two max_three min_three max_four min_four   -- for this text's walks alone
set_option linter.unusedVariables false
set_option linter.unusedSimpArgs false

/-! ### spec_l91Type: function 27 -/
mutual
def spec_l91Type.j0 : Nat → List (List (S81)) → Bool → ByteArray → Bool → List Int → Int → Option (ByteArray × Int)
 | 0,_,_,_,_,_,_ => none
 | k + 1,x1,x2,x7,x19,x1000,x1001 => if x19 = true then ((spec_l6Rd_pick.f k x1000 x1001 (x1.length : Int)).bind fun bt158 => (if 0 ≤ bt158.1 then (if bt158.1 < (x1.length : Int) then (if ((rd_L5 x1 bt158.1).length : Int) > 0 then ((spec_l6Dec.f k bt158.1).bind fun t161 => (if 1 + t161.size ≤ 9223372036854775807 then ((spec_l6Rd_pick.f k x1000 bt158.2 ((rd_L5 x1 bt158.1).length : Int)).bind fun bt163 => ((spec_l6Dec.f k bt163.1).bind fun t165 => (if ((⟨#[83]⟩ : ByteArray) ++ t161).size + t165.size ≤ 9223372036854775807 then (spec_l91Type.j1 k x2 (((⟨#[83]⟩ : ByteArray) ++ t161) ++ t165) x1000 bt163.2) else (none)))) else (none))) else (spec_l91Type.j1 k x2 x7 x1000 bt158.2)) else (none)) else (none))) else (spec_l91Type.j1 k x2 x7 x1000 x1001)
def spec_l91Type.j1 : Nat → Bool → ByteArray → List Int → Int → Option (ByteArray × Int)
 | 0,_,_,_,_ => none
 | k + 1,x2,x7,x1000,x1001 => if x2 = true then ((spec_l6Rd_pick.f k x1000 x1001 4).bind fun bt166 => (if bt166.1 = 0 then ((spec_l6Rd_of.f k x1000 bt166.2 (([(⟨#[38]⟩ : ByteArray),(⟨#[33]⟩ : ByteArray)] : List ByteArray))).bind fun bt171 => (if bt171.1.size + x7.size ≤ 9223372036854775807 then (some (bt171.1 ++ x7,bt171.2)) else (none))) else (some (x7,bt166.2)))) else (some (x7,x1001))
end
def spec_l91Type.f (k : Nat) (s0_0 : List Int) (s0_1 : Int) (l1 : List (List (S81))) (a2 : Bool) : Option (ByteArray × Int):=(spec_l6Rd_of.f k s0_0 s0_1 (([(⟨#[110]⟩ : ByteArray),(⟨#[98]⟩ : ByteArray),(⟨#[111]⟩ : ByteArray),(⟨#[110]⟩ : ByteArray)] : List ByteArray))).bind fun bt154 => ((spec_l6Rd_pick.f k s0_0 bt154.2 2).bind fun bt156 => (if bt156.1 = 0 then (spec_l91Type.j0 k l1 a2 bt154.1 (decide ((l1.length : Int) > 0)) s0_0 bt156.2) else (spec_l91Type.j0 k l1 a2 bt154.1 false s0_0 bt156.2)))
theorem spec_l91Type.mono_l : ∀ k,(∀ y0 y1 y2 y3 y4 y5,LeO (spec_l91Type.j0 k y0 y1 y2 y3 y4 y5) (spec_l91Type.j0 (k + 1) y0 y1 y2 y3 y4 y5)) ∧ (∀ y0 y1 y2 y3,LeO (spec_l91Type.j1 k y0 y1 y2 y3) (spec_l91Type.j1 (k + 1) y0 y1 y2 y3))
 | 0 => ⟨fun _ _ _ _ _ _ r h => by simp [spec_l91Type.j0] at h,fun _ _ _ _ r h => by simp [spec_l91Type.j1] at h⟩
 | k + 1 => by
  obtain ⟨ih0,ih1⟩:=spec_l91Type.mono_l k
  refine ⟨?_,?_⟩
  ·intro y0 y1 y2 y3 y4 y5
   unfold spec_l91Type.j0
   repeat' first
   | (with_reducible exact ih0 _ _ _ _ _ _)
   | (with_reducible exact ih1 _ _ _ _)
   | (with_reducible exact spec_l6Dec.mono _ _)
   | (with_reducible exact spec_l6Rd_of.mono _ _ _ _)
   | (with_reducible exact spec_l6Rd_pick.mono _ _ _ _)
   | (with_reducible exact LeO.refl _)
   | (with_reducible exact LeO.none _)
   | (with_reducible refine LeO.ite ?_ ?_)
   | (with_reducible refine LeO.bind ?_ (fun _ => ?_))
   | exact ih0 _ _ _ _ _ _
   | exact ih1 _ _ _ _
   | exact spec_l6Dec.mono _ _
   | exact spec_l6Rd_of.mono _ _ _ _
   | exact spec_l6Rd_pick.mono _ _ _ _
   | exact LeO.none _
   | refine LeO.ite ?_ ?_
   | refine LeO.bind ?_ (fun _ => ?_)
  ·intro y0 y1 y2 y3
   unfold spec_l91Type.j1
   repeat' first
   | (with_reducible exact ih0 _ _ _ _ _ _)
   | (with_reducible exact ih1 _ _ _ _)
   | (with_reducible exact spec_l6Dec.mono _ _)
   | (with_reducible exact spec_l6Rd_of.mono _ _ _ _)
   | (with_reducible exact spec_l6Rd_pick.mono _ _ _ _)
   | (with_reducible exact LeO.refl _)
   | (with_reducible exact LeO.none _)
   | (with_reducible refine LeO.ite ?_ ?_)
   | (with_reducible refine LeO.bind ?_ (fun _ => ?_))
   | exact ih0 _ _ _ _ _ _
   | exact ih1 _ _ _ _
   | exact spec_l6Dec.mono _ _
   | exact spec_l6Rd_of.mono _ _ _ _
   | exact spec_l6Rd_pick.mono _ _ _ _
   | exact LeO.none _
   | refine LeO.ite ?_ ?_
   | refine LeO.bind ?_ (fun _ => ?_)
theorem spec_l91Type.mono : ∀ a0 a1 a2 a3 k,LeO (spec_l91Type.f k a0 a1 a2 a3) (spec_l91Type.f (k + 1) a0 a1 a2 a3):=by
 intro a0 a1 a2 a3 k
 obtain ⟨ih0,ih1⟩:=spec_l91Type.mono_l k
 unfold spec_l91Type.f
 repeat' first
   | (with_reducible exact ih0 _ _ _ _ _ _)
   | (with_reducible exact ih1 _ _ _ _)
   | (with_reducible exact spec_l6Dec.mono _ _)
   | (with_reducible exact spec_l6Rd_of.mono _ _ _ _)
   | (with_reducible exact spec_l6Rd_pick.mono _ _ _ _)
   | (with_reducible exact LeO.refl _)
   | (with_reducible exact LeO.none _)
   | (with_reducible refine LeO.ite ?_ ?_)
   | (with_reducible refine LeO.bind ?_ (fun _ => ?_))
   | exact ih0 _ _ _ _ _ _
   | exact ih1 _ _ _ _
   | exact spec_l6Dec.mono _ _
   | exact spec_l6Rd_of.mono _ _ _ _
   | exact spec_l6Rd_pick.mono _ _ _ _
   | exact LeO.none _
   | refine LeO.ite ?_ ?_
   | refine LeO.bind ?_ (fun _ => ?_)
def spec_l91Type.T5 : Bool × List (List Nat × List Nat):=(true,[([],[]),([0],[0]),([1],[1]),([],[]),([],[]),([],[]),([4,5],[4,5]),([6],[6]),([7],[7]),([3,8,1],[3,8]),([9,9],[9]),([2,10],[2,10]),([11,10,0,1,2,3,4,5,6,7,8,9,10,11],[11])])
def spec_l91Type.B5 : List Nat:=[0,1,3,0,0,0,48,112,240,507,1019,2047,4095]
theorem spec_l91Type.tab5 : rtab .any (opsOf Tryd.f27 5) = spec_l91Type.T5:=by kernel_rfl
theorem spec_l91Type.bits5 : waitsOk spec_l91Type.T5.2 spec_l91Type.B5 = true:=by kernel_rfl
set_option maxHeartbeats 8000000 in
set_option maxRecDepth 100000 in
theorem spec_l91Type.calls (k : Nat) (g : Nat) (s0_0 : List Int) (s0_1 : Int) (A1 : Option Addr) (c1 : Nat) (l1 : List (List (S81))) (a2 : Bool) (r1 : ByteArray) (r2 : Int) (w0 w : World) (hI : IsS79 w0 w g s0_0 s0_1) (hB : Below w0.heap.size w0 w) (hr1 : ∀ W_,KeepBut w W_ g none → Kd.C (Kd.slice 81 k81) W_ A1 l1.length l1) (hc1 : l1.length ≤ c1) (h : spec_l91Type.f k s0_0 s0_1 l1 a2 = some (r1,r2)) :
  Calls Tryd.prog 27 #[.pointer (some ⟨g,0,none⟩),.slice A1 l1.length c1,.bool a2] w fun e w' => e = .returned (.string r1) ∧ IsS79 w0 w' g s0_0 r2 ∧ Below w0.heap.size w0 w' ∧ KeepBut w w' g none:=by
 have HR1:=Aside0.mk hr1
 have HC1:=Aside0.mk hc1
 clear hr1 hc1
 have HI0:=Aside0.mk hI
 have HK:=Aside0.mk (KeepBut.refl w g none)
 have HL:=Aside0.mk hB.size
 clear hI
 have HW0:=Aside0.mk hB.size
 have HB:=Aside0.mk hB
 clear hB
 have H : ((spec_l6Rd_of.f k s0_0 s0_1 (([(⟨#[110]⟩ : ByteArray),(⟨#[98]⟩ : ByteArray),(⟨#[111]⟩ : ByteArray),(⟨#[110]⟩ : ByteArray)] : List ByteArray))).bind fun bt154 => ((spec_l6Rd_pick.f k s0_0 bt154.2 2).bind fun bt156 => (if bt156.1 = 0 then (spec_l91Type.j0 k l1 a2 bt154.1 (decide ((l1.length : Int) > 0)) s0_0 bt156.2) else (spec_l91Type.j0 k l1 a2 bt154.1 false s0_0 bt156.2)))) = some (r1,r2):=h
 clear h
 obtain ⟨y151,hy151⟩ : ∃ y_ : List ByteArray,y_ = (([(⟨#[110]⟩ : ByteArray),(⟨#[98]⟩ : ByteArray),(⟨#[111]⟩ : ByteArray),(⟨#[110]⟩ : ByteArray)] : List ByteArray)):=⟨_,rfl⟩
 replace H : ((spec_l6Rd_of.f k s0_0 s0_1 y151).bind fun bt154 => ((spec_l6Rd_pick.f k s0_0 bt154.2 2).bind fun bt156 => (if bt156.1 = 0 then (spec_l91Type.j0 k l1 a2 bt154.1 (decide ((l1.length : Int) > 0)) s0_0 bt156.2) else (spec_l91Type.j0 k l1 a2 bt154.1 false s0_0 bt156.2)))) = some (r1,r2):=by first | (rw [hy151];with_reducible exact H) | (have H2_:=(Option.bind_some _ _).symm.trans H;rw [hy151];with_reducible exact H2_) | (have H2_:=(Option.bind_some _ _).symm.trans H;with_reducible exact H2_) | with_reducible exact H | (rw [hy151];exact H) | exact H
 have Ny151:=Aside0.mk hy151
 clear hy151
 replace H:=Option.bind_eq_some_iff.mp H
 obtain ⟨⟨t154,t155⟩,A40,H⟩:=H
 replace H : ((spec_l6Rd_pick.f k s0_0 t155 2).bind fun bt156 => (if bt156.1 = 0 then (spec_l91Type.j0 k l1 a2 t154 (decide ((l1.length : Int) > 0)) s0_0 bt156.2) else (spec_l91Type.j0 k l1 a2 t154 false s0_0 bt156.2))) = some (r1,r2):=H
 have A4:=Aside0.mk A40
 clear A40
 have HC5:=Aside0.mk H
 clear H
 go_enter Tryd.func27,Tryd.ntmps27
 go_upto_region 2 with (first | ((with_reducible refine gate_dst (N:=10) rfl ?_);(try (refine gate_guard (by rfl) ?_;dsimp only));refine Kd.R_lit Kd.string _ 9 ?hg (N:=10) ?hd (xs:=([(⟨#[110]⟩ : ByteArray),(⟨#[98]⟩ : ByteArray),(⟨#[111]⟩ : ByteArray),(⟨#[110]⟩ : ByteArray)] : List ByteArray)) (inner:=[.string (⟨#[110]⟩ : ByteArray),.string (⟨#[98]⟩ : ByteArray),.string (⟨#[111]⟩ : ByteArray),.string (⟨#[110]⟩ : ByteArray)]) (ok:=fun _ => True) (okp:=fun _ => True) ?hr ?hp (fun _ hk => hk) trivial (Below.refl _ _) (Nat.le_refl _) (by simp) ?_;(case hd => rfl);(case hg => rfl);(case hr => first | (go_simp;done) | (go_simp;rfl));(case hp => exact (Reps.one (show Kd.M Kd.string _ _ _ (⟨#[110]⟩ : ByteArray) [.string (⟨#[110]⟩ : ByteArray)] from rfl) (Reps.one (show Kd.M Kd.string _ _ _ (⟨#[98]⟩ : ByteArray) [.string (⟨#[98]⟩ : ByteArray)] from rfl) (Reps.one (show Kd.M Kd.string _ _ _ (⟨#[111]⟩ : ByteArray) [.string (⟨#[111]⟩ : ByteArray)] from rfl) (Reps.one (show Kd.M Kd.string _ _ _ (⟨#[110]⟩ : ByteArray) [.string (⟨#[110]⟩ : ByteArray)] from rfl) (Reps.none _ _))))));intro v152 w6 ho7 hb hg_ hnew_;clear hg_ hnew_;(first | rw [← Ny151.out] at ho7 | (simp only [Int.reduceToNat] at ho7;rw [← Ny151.out] at ho7));have n0_:=Aside0.mk (Kd.R_lower ho7 (keep_size (w:=w) (g:=g) (row:=none) (Up.Kp0 HK)));have n1_:=Aside0.mk (IsS79.below (Ip0 HI0) hb);have n2_:=Aside0.mk (KeepBut.trans (Up.Kp0 HK) (KeepBut.of_below hb g none) (.inl rfl));have n3_:=Aside0.mk (below_step (Up.Bs HB (IsS79.ge HI0.out)) hb);clear HI0 HK HB;have HO153:=n0_;have HI0:=n1_;have HK:=n2_;have HB:=n3_;clear n0_ n1_ n2_ n3_ hb ho7;obtain ⟨Ao8,co8,eo8⟩:=Kd.R_slice HO153.out;subst eo8) | ((with_reducible refine gate_callee (f:=47) rfl ?_);refine Up.gl (some 11) Tryd.func47 #[.pointer (some ⟨g,0,none⟩),.slice Ao8 y151.length co8] ?_;(with_reducible refine (spec_l6Rd_of.calls k g s0_0 s0_1 _ _ y151 t154 t155 w0 _ ?side1 ?side2 ?side3 ?side4 ?side5 A4.out).mono ?_);(case side1 => repeat (first | (with_reducible first | exact HI0.out | apply IsS79.alloc | apply IsS79.drewN | apply IsS79.drew | apply IsS79.set_1) | exact HI0.out));(case side2 => repeat (first | (with_reducible first | exact HB.out | apply below_alloc | apply pw_below_drewN | apply below_drew1 | refine below_set ?_ (IsS79.ge HI0.out)) | exact HB.out));(case side3 => repeat (first | exact (Kd.R_reads' HO153.out).2.2 | (with_reducible refine Kd.C_alloc ?_ _) | (with_reducible refine Kd.C_drewN ?_ _) | (with_reducible refine Kd.C_drew ?_)));(case side4 => exact (Kd.R_reads' HO153.out).2.1);(case side5 => exact far_slice (IsS79.own_ne HI0.out HO153.out (by decide)));rintro e w9 ⟨rfl,hi,hb,hk⟩;refine ⟨_,rfl,?_⟩;have n0_:=Aside0.mk (Kd.R_mono (Kd.R_keep (IsS79.apart (show IsS79 w0 _ g s0_0 s0_1 from by repeat (first | (with_reducible first | exact HI0.out | apply IsS79.alloc | apply IsS79.drewN | apply IsS79.drew | apply IsS79.set_1) | exact HI0.out)) (Up.Rup HO153) (by decide)) hk (fun _ h => h.2)) (fun _ h => h.1));have n1_:=Aside0.mk (KeepBut.trans (Up.Kp0 HK) hk (.inl rfl));have n2_:=Aside0.mk (hb);have n3_:=Aside0.mk (hi);clear HO153 HK HB HI0;have HO153:=n0_;have HK:=n1_;have HB:=n2_;have HI0:=n3_;clear n0_ n1_ n2_ n3_;(try clear hb);(try clear hb2);(try clear hk);(try clear hi)))
 (try simp only [Act.put,List.setIfInBounds_toArray,List.set_cons_zero,List.set_cons_succ])
 go_cut [19] (fun v19 wc => ∃ (kq : Nat) (x19_4 : Bool) (x1001_4 : Int),v19 = .bool x19_4 ∧ Aside0 (spec_l91Type.j0 kq l1 a2 t154 x19_4 s0_0 x1001_4 = some (r1,r2)) ∧ Aside0 (kq ≤ k) ∧ Aside0 (IsS79 w0 wc g s0_0 x1001_4) ∧ Aside0 (KeepBut w wc g none) ∧ Aside0 (Below w0.heap.size w0 wc))
 case first =>
  have H:=HC5.out
  clear HC5
  replace H:=Option.bind_eq_some_iff.mp H
  obtain ⟨⟨t156,t157⟩,A100,H⟩:=H
  replace H : (if t156 = 0 then (spec_l91Type.j0 k l1 a2 t154 (decide ((l1.length : Int) > 0)) s0_0 t157) else (spec_l91Type.j0 k l1 a2 t154 false s0_0 t157)) = some (r1,r2):=H
  have A10:=Aside0.mk A100
  clear A100
  by_cases c11 : t156 = 0
  ·rw [if_pos c11] at H
   have c11b0 : (t156 == 0) = true:=beq_iff_eq.mpr c11
   have c11b1 : (t156 != 0) = false:=bne_eq_false_iff_eq.mpr c11
   clear c11
   (first | rw [c11b0] | (simp only [i64_w,i32_w];rw [c11b0]) | skip)
   have H':=Aside0.mk H
   clear H
   go_wp2_with (first | ((with_reducible refine gate_callee (f:=46) rfl ?_);refine Up.gl (some 13) Tryd.func46 #[.pointer (some ⟨g,0,none⟩),.int .i64 2] ?_;(with_reducible refine (spec_l6Rd_pick.calls k g s0_0 t155 2 t156 t157 w0 _ ?side1 ?side2 A10.out).mono ?_);(case side1 => repeat (first | (with_reducible first | exact HI0.out | apply IsS79.alloc | apply IsS79.drewN | apply IsS79.drew | apply IsS79.set_1) | exact HI0.out));(case side2 => repeat (first | (with_reducible first | exact HB.out | apply below_alloc | apply pw_below_drewN | apply below_drew1 | refine below_set ?_ (IsS79.ge HI0.out)) | exact HB.out));rintro e w12 ⟨rfl,hi,hb,hk⟩;refine ⟨_,rfl,?_⟩;have n0_:=Aside0.mk (Kd.R_mono (Kd.R_keep (IsS79.apart (show IsS79 w0 _ g s0_0 t155 from by repeat (first | (with_reducible first | exact HI0.out | apply IsS79.alloc | apply IsS79.drewN | apply IsS79.drew | apply IsS79.set_1) | exact HI0.out)) (Up.Rup HO153) (by decide)) hk (fun _ h => h.2)) (fun _ h => h.1));have n1_:=Aside0.mk (KeepBut.trans (Up.Kp0 HK) hk (.inl rfl));have n2_:=Aside0.mk (hb);have n3_:=Aside0.mk (hi);clear HO153 HK HB HI0;have HO153:=n0_;have HK:=n1_;have HB:=n2_;have HI0:=n3_;clear n0_ n1_ n2_ n3_;(try clear hb);(try clear hb2);(try clear hk);(try clear hi)))
   go_meet
   case rel => exact ⟨_,(decide ((l1.length : Int) > 0)),(t157),(by first | rfl | (simp;done) | (simp [*];done)),H',⟨by first | omega | exact Nat.le_refl _⟩,⟨by repeat (first | (with_reducible first | exact HI0.out | apply IsS79.alloc | apply IsS79.drewN | apply IsS79.drew | apply IsS79.set_1) | exact HI0.out)⟩,⟨by repeat (first | (with_reducible first | exact HK.out | apply KeepBut.set_ | apply keep_drewN | apply keep_drew | apply keep_alloc) | exact HK.out)⟩,⟨by repeat (first | (with_reducible first | exact HB.out | apply below_alloc | apply pw_below_drewN | apply below_drew1 | refine below_set ?_ (IsS79.ge HI0.out)) | exact HB.out)⟩⟩
  ·rw [if_neg c11] at H
   have c11b0 : (t156 == 0) = false:=beq_eq_false_iff_ne.mpr c11
   have c11b1 : (t156 != 0) = true:=bne_iff_ne.mpr c11
   (first | rw [c11b0] | (simp only [i64_w,i32_w];rw [c11b0]) | skip)
   have H':=Aside0.mk H
   clear H
   go_wp2_with (first | ((with_reducible refine gate_callee (f:=46) rfl ?_);refine Up.gl (some 13) Tryd.func46 #[.pointer (some ⟨g,0,none⟩),.int .i64 2] ?_;(with_reducible refine (spec_l6Rd_pick.calls k g s0_0 t155 2 t156 t157 w0 _ ?side1 ?side2 A10.out).mono ?_);(case side1 => repeat (first | (with_reducible first | exact HI0.out | apply IsS79.alloc | apply IsS79.drewN | apply IsS79.drew | apply IsS79.set_1) | exact HI0.out));(case side2 => repeat (first | (with_reducible first | exact HB.out | apply below_alloc | apply pw_below_drewN | apply below_drew1 | refine below_set ?_ (IsS79.ge HI0.out)) | exact HB.out));rintro e w13 ⟨rfl,hi,hb,hk⟩;refine ⟨_,rfl,?_⟩;have n0_:=Aside0.mk (Kd.R_mono (Kd.R_keep (IsS79.apart (show IsS79 w0 _ g s0_0 t155 from by repeat (first | (with_reducible first | exact HI0.out | apply IsS79.alloc | apply IsS79.drewN | apply IsS79.drew | apply IsS79.set_1) | exact HI0.out)) (Up.Rup HO153) (by decide)) hk (fun _ h => h.2)) (fun _ h => h.1));have n1_:=Aside0.mk (KeepBut.trans (Up.Kp0 HK) hk (.inl rfl));have n2_:=Aside0.mk (hb);have n3_:=Aside0.mk (hi);clear HO153 HK HB HI0;have HO153:=n0_;have HK:=n1_;have HB:=n2_;have HI0:=n3_;clear n0_ n1_ n2_ n3_;(try clear hb);(try clear hb2);(try clear hk);(try clear hi)))
   go_meet
   case rel => exact ⟨_,(false),(t157),(by first | rfl | (simp;done) | (simp [*];done)),H',⟨by first | omega | exact Nat.le_refl _⟩,⟨by repeat (first | (with_reducible first | exact HI0.out | apply IsS79.alloc | apply IsS79.drewN | apply IsS79.drew | apply IsS79.set_1) | exact HI0.out)⟩,⟨by repeat (first | (with_reducible first | exact HK.out | apply KeepBut.set_ | apply keep_drewN | apply keep_drew | apply keep_alloc) | exact HK.out)⟩,⟨by repeat (first | (with_reducible first | exact HB.out | apply below_alloc | apply pw_below_drewN | apply below_drew1 | refine below_set ?_ (IsS79.ge HI0.out)) | exact HB.out)⟩⟩
 case rest =>
  clear HC5
  try clear c1
  try clear c2
  try clear p2
  try clear c4
  try clear c11
  try clear c11b0
  try clear c11b1
  obtain ⟨kq,x19_4,x1001_4,rfl,HA,HJ4,HI0,HK,HB⟩:=hcut
  cases kq with
  | zero => exact absurd HA.out (by simp [spec_l91Type.j0])
  | succ kj4 =>
   have H:=HA.out
   clear HA
   simp only [spec_l91Type.j0] at H
   have HC14:=Aside0.mk H
   clear H
   go_upto_if 19 with (fail)
   go_cut [7] (fun v7 wc => ∃ (kq : Nat) (x7_13 : ByteArray) (x1001_13 : Int),v7 = .string x7_13 ∧ Aside0 (spec_l91Type.j1 kq a2 x7_13 s0_0 x1001_13 = some (r1,r2)) ∧ Aside0 (kq ≤ kj4) ∧ Aside0 (IsS79 w0 wc g s0_0 x1001_13) ∧ Aside0 (KeepBut w wc g none) ∧ Aside0 (Below w0.heap.size w0 wc))
   case first =>
    have H:=HC14.out
    clear HC14
    by_cases c15 : x19_4 = true
    ·subst c15
     have H1 : ((spec_l6Rd_pick.f kj4 s0_0 x1001_4 (l1.length : Int)).bind fun bt158 => (if 0 ≤ bt158.1 then (if bt158.1 < (l1.length : Int) then (if ((rd_L5 l1 bt158.1).length : Int) > 0 then ((spec_l6Dec.f kj4 bt158.1).bind fun t161 => (if 1 + t161.size ≤ 9223372036854775807 then ((spec_l6Rd_pick.f kj4 s0_0 bt158.2 ((rd_L5 l1 bt158.1).length : Int)).bind fun bt163 => ((spec_l6Dec.f kj4 bt163.1).bind fun t165 => (if ((⟨#[83]⟩ : ByteArray) ++ t161).size + t165.size ≤ 9223372036854775807 then (spec_l91Type.j1 kj4 a2 (((⟨#[83]⟩ : ByteArray) ++ t161) ++ t165) s0_0 bt163.2) else (none)))) else (none))) else (spec_l91Type.j1 kj4 a2 t154 s0_0 bt158.2)) else (none)) else (none))) = some (r1,r2):=by rw [if_pos rfl] at H;exact H
     clear H
     have H:=H1
     clear H1
     replace H:=Option.bind_eq_some_iff.mp H
     obtain ⟨⟨t158,t159⟩,A160,H⟩:=H
     replace H : (if 0 ≤ t158 then (if t158 < (l1.length : Int) then (if ((rd_L5 l1 t158).length : Int) > 0 then ((spec_l6Dec.f kj4 t158).bind fun t161 => (if 1 + t161.size ≤ 9223372036854775807 then ((spec_l6Rd_pick.f kj4 s0_0 t159 ((rd_L5 l1 t158).length : Int)).bind fun bt163 => ((spec_l6Dec.f kj4 bt163.1).bind fun t165 => (if ((⟨#[83]⟩ : ByteArray) ++ t161).size + t165.size ≤ 9223372036854775807 then (spec_l91Type.j1 kj4 a2 (((⟨#[83]⟩ : ByteArray) ++ t161) ++ t165) s0_0 bt163.2) else (none)))) else (none))) else (spec_l91Type.j1 kj4 a2 t154 s0_0 t159)) else (none)) else (none)) = some (r1,r2):=H
     have A16:=Aside0.mk A160
     clear A160
     by_cases c17 : 0 ≤ t158
     ·rw [if_pos c17] at H
      have c17b0 : decide (0 ≤ t158) = true:=decide_eq_true c17
      clear c17
      (first | rw [c17b0] | (simp only [i64_w,i32_w];rw [c17b0]) | skip)
      by_cases c18 : t158 < (l1.length : Int)
      ·rw [if_pos c18] at H
       have c18b0 : decide (t158 < (l1.length : Int)) = true:=decide_eq_true c18
       clear c18
       by_cases c19 : ((rd_L5 l1 t158).length : Int) > 0
       ·rw [if_pos c19] at H
        have c19b0 : decide (0 < ((rd_L5 l1 t158).length : Int)) = true:=decide_eq_true c19
        have c19b1 : decide (0 < (rd_L5 l1 t158).length) = true:=decide_eq_true (by omega)
        clear c19
        replace H:=Option.bind_eq_some_iff.mp H
        obtain ⟨t161,A200,H⟩:=H
        replace H : (if 1 + t161.size ≤ 9223372036854775807 then ((spec_l6Rd_pick.f kj4 s0_0 t159 ((rd_L5 l1 t158).length : Int)).bind fun bt163 => ((spec_l6Dec.f kj4 bt163.1).bind fun t165 => (if ((⟨#[83]⟩ : ByteArray) ++ t161).size + t165.size ≤ 9223372036854775807 then (spec_l91Type.j1 kj4 a2 (((⟨#[83]⟩ : ByteArray) ++ t161) ++ t165) s0_0 bt163.2) else (none)))) else (none)) = some (r1,r2):=H
        have A20:=Aside0.mk A200
        clear A200
        by_cases c21 : 1 + t161.size ≤ 9223372036854775807
        ·rw [if_pos c21] at H
         have c21b0:=eq_true c21
         have c21b1 : decide (1 + t161.size ≤ 9223372036854775807) = true:=decide_eq_true c21
         try have c21b2 : (9223372036854775807 < 1 + t161.size) = False:=eq_false (Nat.not_lt.2 c21)
         replace H:=Option.bind_eq_some_iff.mp H
         obtain ⟨⟨t163,t164⟩,A220,H⟩:=H
         replace H : ((spec_l6Dec.f kj4 t163).bind fun t165 => (if ((⟨#[83]⟩ : ByteArray) ++ t161).size + t165.size ≤ 9223372036854775807 then (spec_l91Type.j1 kj4 a2 (((⟨#[83]⟩ : ByteArray) ++ t161) ++ t165) s0_0 t164) else (none))) = some (r1,r2):=H
         have A22:=Aside0.mk A220
         clear A220
         replace H:=Option.bind_eq_some_iff.mp H
         obtain ⟨t165,A230,H⟩:=H
         replace H : (if ((⟨#[83]⟩ : ByteArray) ++ t161).size + t165.size ≤ 9223372036854775807 then (spec_l91Type.j1 kj4 a2 (((⟨#[83]⟩ : ByteArray) ++ t161) ++ t165) s0_0 t164) else (none)) = some (r1,r2):=H
         have A23:=Aside0.mk A230
         clear A230
         by_cases c24 : ((⟨#[83]⟩ : ByteArray) ++ t161).size + t165.size ≤ 9223372036854775807
         ·rw [if_pos c24] at H
          have hzc24_ : (9223372036854775807 < 1 + t161.size + t165.size) = False:=eq_false (by have h_:=c24;simp only [ByteArray.size_append] at h_;have h0_ : (⟨#[83]⟩ : ByteArray).size = 1:=rfl;omega)
          have hzc24_ : (9223372036854775807 < 1 + t161.size + t165.size) = False:=eq_false (by have h_:=c24;rw [ByteArray.size_append] at h_;have h2_ : (⟨#[83]⟩ : ByteArray).size = 1:=rfl;omega)
          have c24b0:=eq_true c24
          have c24b1 : decide (((⟨#[83]⟩ : ByteArray) ++ t161).size + t165.size ≤ 9223372036854775807) = true:=decide_eq_true c24
          try have c24b2 : (9223372036854775807 < ((⟨#[83]⟩ : ByteArray) ++ t161).size + t165.size) = False:=eq_false (Nat.not_lt.2 c24)
          have H':=Aside0.mk H
          clear H
          try go_wp2_with (first | ((with_reducible refine gate_callee (f:=46) rfl ?_);refine Up.gl (some 23) Tryd.func46 #[.pointer (some ⟨g,0,none⟩),.int .i64 (l1.length : Int)] ?_;(with_reducible refine (spec_l6Rd_pick.calls kj4 g s0_0 x1001_4 (l1.length : Int) t158 t159 w0 _ ?side1 ?side2 A16.out).mono ?_);(case side1 => repeat (first | (with_reducible first | exact HI0.out | apply IsS79.alloc | apply IsS79.drewN | apply IsS79.drew | apply IsS79.set_1) | exact HI0.out));(case side2 => repeat (first | (with_reducible first | exact HB.out | apply below_alloc | apply pw_below_drewN | apply below_drew1 | refine below_set ?_ (IsS79.ge HI0.out)) | exact HB.out));rintro e w25 ⟨rfl,hi,hb,hk⟩;refine ⟨_,rfl,?_⟩;have n0_:=Aside0.mk (KeepBut.trans (Up.Kp0 HK) hk (.inl rfl));have n1_:=Aside0.mk (hb);have n2_:=Aside0.mk (hi);clear HK HB HI0;have HK:=n0_;have HB:=n1_;have HI0:=n2_;clear n0_ n1_ n2_;(try clear hb);(try clear hb2);(try clear hk);(try clear hi);have p160 : 0 ≤ (t158 : Int):=Up.od;have q160 : t158 < (l1.length : Int):=Up.od;obtain ⟨ad160,A160_0,c160_0,e160,hx160_0,hl160_0,hi160_0⟩:=at_L5 (Kd.C_foot_now HR1.out HK.out) t158 p160 q160;cases e160;have HR160_0:=Aside0.mk hi160_0;have HC160_0:=Aside0.mk hl160_0;clear hi160_0 hl160_0;replace p160:=eq_true p160;replace q160:=eq_true q160))
          have n0_:=Aside0.mk (Kd.C_drew HR160_0.out)
          have n1_:=Aside0.mk (IsS79.drew HI0.out)
          have n2_:=Aside0.mk (keep_drew HK.out)
          have n3_:=Aside0.mk (below_drew1 HB.out)
          clear HR160_0
          clear HI0
          clear HK
          clear HB
          have HR160_0:=n0_
          have HI0:=n1_
          have HK:=n2_
          have HB:=n3_
          clear n0_ n1_ n2_ n3_
          have p162 : 0 ≤ (t158 : Int):=Up.od
          have q162 : t158 < (l1.length : Int):=Up.od
          obtain ⟨ad162,A162_0,c162_0,e162,hx162_0,hl162_0,hi162_0⟩:=at_L5 (Kd.C_foot_now HR1.out HK.out) t158 p162 q162
          have hw162_0:=hx162_0
          obtain rfl : ad160 = ad162:=(by injection e162)
          have hne162_0:=(show ((ad160.add (t158).toNat) : Addr).block ≠ g from by first | (rw [add_block];exact Kd.foot_ne HR1.out (by omega) (by decide)) | (show (Addr.add _ _).block ≠ _;rw [add_block];exact Kd.foot_ne HR1.out (by omega) (by decide)) | exact Kd.foot_ne HR1.out (by omega) (by decide) | (dsimp only;exact Kd.foot_ne HR1.out (by omega) (by decide)))
          have hlt162_0:=(Kd.foot_lt HR1.out (by omega) (by decide))
          have HR162_0:=Aside0.mk hi162_0
          have HC162_0:=Aside0.mk hl162_0
          clear hi162_0 hl162_0
          replace p162:=eq_true p162
          replace q162:=eq_true q162
          refine start_ (n:=13) (S:=fun w' => w'.cell? (ad160.add (t158).toNat) = some (.slice A162_0 (rd_L5 l1 t158).length c162_0)) (ds:=[]) #[false,false,false,false,false,false,false,false,false,false,false,false,false] (by kernel_rfl) rfl rfl (hx162_0) (fun hHeld => ?_);refine with_tabW spec_l91Type.tab5 spec_l91Type.bits5 (fun HT_ HW_ => ?_)
          generalize w25.drew = w26 at HR160_0 HI0 HK HB HR162_0 hx162_0 hHeld ⊢
          refine Up.pu 0 (some 30) HT_ ?_
          refine Up.pu 3 (some 33) HT_ ?_
          refine Up.pu 4 (some 34) HT_ ?_
          refine Up.pu 5 (some 35) HT_ ?_
          refine Up.pu 6 (some 36) HT_ ?_
          refine take_ (i:=7) (N:=some 37) (v:=?_) (a':=?_) #[true,false,false,true,true,true,true,true,false,false,false,false,false] rfl rfl (take_ofW HT_.out HW_.out (by kernel_rfl)) (fun _ _ _ h => h) (Or.inl ⟨by rfl,?_⟩) hHeld ?_ ?_
          rotate_left
          ·intro w' s0
           go_simp
           with_reducible rfl
          rotate_left
          ·simp only [Act.put,List.setIfInBounds_toArray,List.set_cons_zero,List.set_cons_succ,i64_w,i32_w]
           rfl
          refine Up.pu 8 (some 38) HT_ ?_
          refine Up.on 1 (some 31) HT_ (fun K hK => ?_)
          refine Up.go Tryd.func53 #[.int .i64 t158] ?_
          with_reducible refine (spec_l6Dec.calls kj4 t158 t161 _ A20.out).mono ?_
          rintro e w27 ⟨rfl,hb⟩
          have HS0_:=(hb.cell (World.block_lt_of_cell? _ _ (hHeld))).trans (hHeld)
          refine ⟨_,rfl,?_⟩
          have n0_:=Aside0.mk (IsS79.below (Ip0 HI0) hb)
          have n1_:=Aside0.mk (Kd.C_below (by repeat (first | (with_reducible exact HR160_0.out) | (with_reducible refine Kd.C_alloc ?_ _) | (with_reducible refine Kd.C_drewN ?_ _) | (with_reducible refine Kd.C_drew ?_) | exact HR160_0.out)) hb)
          have n2_:=Aside0.mk (Kd.C_below (by repeat (first | (with_reducible exact HR162_0.out) | (with_reducible refine Kd.C_alloc ?_ _) | (with_reducible refine Kd.C_drewN ?_ _) | (with_reducible refine Kd.C_drew ?_) | exact HR162_0.out)) hb)
          have n3_:=Aside0.mk (KeepBut.trans (Up.Kp0 HK) (KeepBut.of_below hb g none) (.inl rfl))
          have n4_:=Aside0.mk (below_step (Up.Bs HB (IsS79.ge HI0.out)) hb)
          clear HI0
          clear HR160_0
          clear HR162_0
          clear HK
          clear HB
          have HI0:=n0_
          have HR160_0:=n1_
          have HR162_0:=n2_
          have HK:=n3_
          have HB:=n4_
          clear n0_ n1_ n2_ n3_ n4_
          (try clear hb)
          (try clear hb2)
          (try clear hk)
          (try clear hi)
          refine hK.out _ _ (HS0_) (fun hHeld => ?_)
          clear hK K
          refine Up.nm 31 ?_
          refine Up.pu 2 (some 32) HT_ ?_
          refine Up.on 9 (some 39) HT_ (fun K hK => ?_)
          refine Up.go Tryd.func46 #[.pointer (some ⟨g,0,none⟩),.int .i64 ((rd_L5 l1 t158).length : Int)] ?_
          with_reducible refine (spec_l6Rd_pick.calls kj4 g s0_0 t159 ((rd_L5 l1 t158).length : Int) t163 t164 w0 _ ?side1 ?side2 A22.out).mono ?_
          (case side1 => repeat (first | (with_reducible first | exact HI0.out | apply IsS79.alloc | apply IsS79.drewN | apply IsS79.drew | apply IsS79.set_1) | exact HI0.out))
          (case side2 => repeat (first | (with_reducible first | exact HB.out | apply below_alloc | apply pw_below_drewN | apply below_drew1 | refine below_set ?_ (IsS79.ge HI0.out)) | exact HB.out))
          rintro e w28 ⟨rfl,hi,hb,hk⟩
          have HS0_:=keep_cell hk (hHeld) (by first | (rw [add_block];exact hne162_0) | (show (Addr.add _ _).block ≠ _;rw [add_block];exact hne162_0) | exact hne162_0)
          refine ⟨_,rfl,?_⟩
          have n0_:=Aside0.mk (KeepBut.trans (Up.Kp0 HK) hk (.inl rfl))
          have n1_:=Aside0.mk (hb)
          have n2_:=Aside0.mk (hi)
          clear HK
          clear HB
          clear HI0
          have HK:=n0_
          have HB:=n1_
          have HI0:=n2_
          clear n0_ n1_ n2_
          (try clear hb)
          (try clear hb2)
          (try clear hk)
          (try clear hi)
          refine hK.out _ _ (HS0_) (fun hHeld => ?_)
          clear hK K
          refine Up.nm 39 ?_
          refine Up.on 10 (some 40) HT_ (fun K hK => ?_)
          refine Up.go Tryd.func53 #[.int .i64 t163] ?_
          with_reducible refine (spec_l6Dec.calls kj4 t163 t165 _ A23.out).mono ?_
          rintro e w29 ⟨rfl,hb⟩
          have HS0_:=(hb.cell (World.block_lt_of_cell? _ _ (hHeld))).trans (hHeld)
          refine ⟨_,rfl,?_⟩
          have n0_:=Aside0.mk (IsS79.below (Ip0 HI0) hb)
          have n1_:=Aside0.mk (KeepBut.trans (Up.Kp0 HK) (KeepBut.of_below hb g none) (.inl rfl))
          have n2_:=Aside0.mk (below_step (Up.Bs HB (IsS79.ge HI0.out)) hb)
          clear HI0
          clear HK
          clear HB
          have HI0:=n0_
          have HK:=n1_
          have HB:=n2_
          clear n0_ n1_ n2_
          (try clear hb)
          (try clear hb2)
          (try clear hk)
          (try clear hi)
          refine hK.out _ _ (HS0_) (fun hHeld => ?_)
          clear hK K
          refine Up.nm 40 ?_
          refine Up.pu 11 (some 41) HT_ ?_
          refine Up.pu 12 (some 7) HT_ ?_
          refine done_ (done_of HT_.out (by kernel_rfl)) ?_
          try go_wp2
          go_meet
          case rel => exact ⟨_,(((⟨#[83]⟩ : ByteArray) ++ t161) ++ t165),(t164),(by first | rfl | (simp;done) | (simp [*];done)),H',⟨by have:=HJ4.out;first | omega | exact Nat.le_refl _⟩,⟨by repeat (first | (with_reducible first | exact HI0.out | apply IsS79.alloc | apply IsS79.drewN | apply IsS79.drew | apply IsS79.set_1) | exact HI0.out)⟩,⟨by repeat (first | (with_reducible first | exact HK.out | apply KeepBut.set_ | apply keep_drewN | apply keep_drew | apply keep_alloc) | exact HK.out)⟩,⟨by repeat (first | (with_reducible first | exact HB.out | apply below_alloc | apply pw_below_drewN | apply below_drew1 | refine below_set ?_ (IsS79.ge HI0.out)) | exact HB.out)⟩⟩
         ·rw [if_neg c24] at H
          exact absurd H (by simp)
        ·rw [if_neg c21] at H
         exact absurd H (by simp)
       ·rw [if_neg c19] at H
        have c19b0 : decide (0 < ((rd_L5 l1 t158).length : Int)) = false:=decide_eq_false c19
        have c19b1 : decide (0 < (rd_L5 l1 t158).length) = false:=decide_eq_false (by omega)
        clear c19
        have H':=Aside0.mk H
        clear H
        go_wp2_with (first | ((with_reducible refine gate_callee (f:=46) rfl ?_);refine Up.gl (some 23) Tryd.func46 #[.pointer (some ⟨g,0,none⟩),.int .i64 (l1.length : Int)] ?_;(with_reducible refine (spec_l6Rd_pick.calls kj4 g s0_0 x1001_4 (l1.length : Int) t158 t159 w0 _ ?side1 ?side2 A16.out).mono ?_);(case side1 => repeat (first | (with_reducible first | exact HI0.out | apply IsS79.alloc | apply IsS79.drewN | apply IsS79.drew | apply IsS79.set_1) | exact HI0.out));(case side2 => repeat (first | (with_reducible first | exact HB.out | apply below_alloc | apply pw_below_drewN | apply below_drew1 | refine below_set ?_ (IsS79.ge HI0.out)) | exact HB.out));rintro e w30 ⟨rfl,hi,hb,hk⟩;refine ⟨_,rfl,?_⟩;have n0_:=Aside0.mk (KeepBut.trans (Up.Kp0 HK) hk (.inl rfl));have n1_:=Aside0.mk (hb);have n2_:=Aside0.mk (hi);clear HK HB HI0;have HK:=n0_;have HB:=n1_;have HI0:=n2_;clear n0_ n1_ n2_;(try clear hb);(try clear hb2);(try clear hk);(try clear hi);have p160 : 0 ≤ (t158 : Int):=Up.od;have q160 : t158 < (l1.length : Int):=Up.od;obtain ⟨ad160,A160_0,c160_0,e160,hx160_0,hl160_0,hi160_0⟩:=at_L5 (Kd.C_foot_now HR1.out HK.out) t158 p160 q160;cases e160;have HR160_0:=Aside0.mk hi160_0;have HC160_0:=Aside0.mk hl160_0;clear hi160_0 hl160_0;replace p160:=eq_true p160;replace q160:=eq_true q160))
        go_meet
        case rel => exact ⟨_,(t154),(t159),(by first | rfl | (simp;done) | (simp [*];done)),H',⟨by have:=HJ4.out;first | omega | exact Nat.le_refl _⟩,⟨by repeat (first | (with_reducible first | exact HI0.out | apply IsS79.alloc | apply IsS79.drewN | apply IsS79.drew | apply IsS79.set_1) | exact HI0.out)⟩,⟨by repeat (first | (with_reducible first | exact HK.out | apply KeepBut.set_ | apply keep_drewN | apply keep_drew | apply keep_alloc) | exact HK.out)⟩,⟨by repeat (first | (with_reducible first | exact HB.out | apply below_alloc | apply pw_below_drewN | apply below_drew1 | refine below_set ?_ (IsS79.ge HI0.out)) | exact HB.out)⟩⟩
      ·rw [if_neg c18] at H
       exact absurd H (by simp)
     ·rw [if_neg c17] at H
      exact absurd H (by simp)
    ·replace c15:=Bool.eq_false_iff.mpr c15
     subst c15
     have H1 : (spec_l91Type.j1 kj4 a2 t154 s0_0 x1001_4) = some (r1,r2):=by rw [if_neg (show ¬ (false = true) by decide)] at H;exact H
     clear H
     have H:=H1
     clear H1
     have H':=Aside0.mk H
     clear H
     go_wp2
     go_meet
     case rel => exact ⟨_,(t154),(x1001_4),(by first | rfl | (simp;done) | (simp [*];done)),H',⟨by have:=HJ4.out;first | omega | exact Nat.le_refl _⟩,⟨by repeat (first | (with_reducible first | exact HI0.out | apply IsS79.alloc | apply IsS79.drewN | apply IsS79.drew | apply IsS79.set_1) | exact HI0.out)⟩,⟨by repeat (first | (with_reducible first | exact HK.out | apply KeepBut.set_ | apply keep_drewN | apply keep_drew | apply keep_alloc) | exact HK.out)⟩,⟨by repeat (first | (with_reducible first | exact HB.out | apply below_alloc | apply pw_below_drewN | apply below_drew1 | refine below_set ?_ (IsS79.ge HI0.out)) | exact HB.out)⟩⟩
   case rest =>
    clear HC14
    try clear c1
    try clear p1
    try clear q1
    try clear hx1
    try clear c2
    try clear p2
    try clear c4
    try clear c5
    try clear c11
    try clear c11b0
    try clear c11b1
    try clear c15
    try clear c16
    try clear p16
    try clear q16
    try clear hx16
    try clear c17
    try clear c17b0
    try clear c18
    try clear c18b0
    try clear c19
    try clear c19b0
    try clear c19b1
    try clear c21
    try clear c21b0
    try clear c21b1
    try clear c21b2
    try clear c24
    try clear c24b0
    try clear c24b1
    try clear c24b2
    try clear c27
    try clear hx160_0
    try clear hx162_0
    try clear p160
    try clear p162
    try clear p2
    try clear q160
    try clear q162
    obtain ⟨kq,x7_13,x1001_13,rfl,HA,HJ13,HI0,HK,HB⟩:=hcut
    cases kq with
    | zero => exact absurd HA.out (by simp [spec_l91Type.j1])
    | succ kj13 =>
     have H:=HA.out
     clear HA
     simp only [spec_l91Type.j1] at H
     by_cases c31 : a2 = true
     ·subst c31
      have H1 : ((spec_l6Rd_pick.f kj13 s0_0 x1001_13 4).bind fun bt166 => (if bt166.1 = 0 then ((spec_l6Rd_of.f kj13 s0_0 bt166.2 (([(⟨#[38]⟩ : ByteArray),(⟨#[33]⟩ : ByteArray)] : List ByteArray))).bind fun bt171 => (if bt171.1.size + x7_13.size ≤ 9223372036854775807 then (some (bt171.1 ++ x7_13,bt171.2)) else (none))) else (some (x7_13,bt166.2)))) = some (r1,r2):=by rw [if_pos rfl] at H;exact H
      clear H
      have H:=H1
      clear H1
      replace H:=Option.bind_eq_some_iff.mp H
      obtain ⟨⟨t166,t167⟩,A320,H⟩:=H
      replace H : (if t166 = 0 then ((spec_l6Rd_of.f kj13 s0_0 t167 (([(⟨#[38]⟩ : ByteArray),(⟨#[33]⟩ : ByteArray)] : List ByteArray))).bind fun bt171 => (if bt171.1.size + x7_13.size ≤ 9223372036854775807 then (some (bt171.1 ++ x7_13,bt171.2)) else (none))) else (some (x7_13,t167))) = some (r1,r2):=H
      have A32:=Aside0.mk A320
      clear A320
      by_cases c33 : t166 = 0
      ·rw [if_pos c33] at H
       have c33b0 : (t166 == 0) = true:=beq_iff_eq.mpr c33
       have c33b1 : (t166 != 0) = false:=bne_eq_false_iff_eq.mpr c33
       clear c33
       obtain ⟨y168,hy168⟩ : ∃ y_ : List ByteArray,y_ = (([(⟨#[38]⟩ : ByteArray),(⟨#[33]⟩ : ByteArray)] : List ByteArray)):=⟨_,rfl⟩
       replace H : ((spec_l6Rd_of.f kj13 s0_0 t167 y168).bind fun bt171 => (if bt171.1.size + x7_13.size ≤ 9223372036854775807 then (some (bt171.1 ++ x7_13,bt171.2)) else (none))) = some (r1,r2):=by first | (rw [hy168];with_reducible exact H) | (have H2_:=(Option.bind_some _ _).symm.trans H;rw [hy168];with_reducible exact H2_) | (have H2_:=(Option.bind_some _ _).symm.trans H;with_reducible exact H2_) | with_reducible exact H | (rw [hy168];exact H) | exact H
       have Ny168:=Aside0.mk hy168
       clear hy168
       replace H:=Option.bind_eq_some_iff.mp H
       obtain ⟨⟨t171,t172⟩,A340,H⟩:=H
       replace H : (if t171.size + x7_13.size ≤ 9223372036854775807 then (some (t171 ++ x7_13,t172)) else (none)) = some (r1,r2):=H
       have A34:=Aside0.mk A340
       clear A340
       by_cases c35 : t171.size + x7_13.size ≤ 9223372036854775807
       ·rw [if_pos c35] at H
        have c35b0:=eq_true c35
        have c35b1 : decide (t171.size + x7_13.size ≤ 9223372036854775807) = true:=decide_eq_true c35
        try have c35b2 : (9223372036854775807 < t171.size + x7_13.size) = False:=eq_false (Nat.not_lt.2 c35)
        simp only [Option.some.injEq,Prod.mk.injEq] at H
        obtain ⟨rfl,rfl⟩:=H
        go_wp2_with (first | (go_at_call 46;(with_reducible refine (spec_l6Rd_pick.calls kj13 g s0_0 x1001_13 4 t166 t167 w0 _ ?side1 ?side2 A32.out).mono ?_);(case side1 => repeat (first | (with_reducible first | exact HI0.out | apply IsS79.alloc | apply IsS79.drewN | apply IsS79.drew | apply IsS79.set_1) | exact HI0.out));(case side2 => repeat (first | (with_reducible first | exact HB.out | apply below_alloc | apply pw_below_drewN | apply below_drew1 | refine below_set ?_ (IsS79.ge HI0.out)) | exact HB.out));rintro e w36 ⟨rfl,hi,hb,hk⟩;have n0_:=Aside0.mk (KeepBut.trans (Up.Kp0 HK) hk (.inl rfl));have n1_:=Aside0.mk (hb);have n2_:=Aside0.mk (hi);clear HK HB HI0;have HK:=n0_;have HB:=n1_;have HI0:=n2_;clear n0_ n1_ n2_;(try clear hb);(try clear hb2);(try clear hk);(try clear hi)) | ((with_reducible refine gate_dst (N:=49) rfl ?_);(try (refine gate_guard (by rfl) ?_;dsimp only));refine Kd.R_lit Kd.string _ 9 ?hg (N:=49) ?hd (xs:=([(⟨#[38]⟩ : ByteArray),(⟨#[33]⟩ : ByteArray)] : List ByteArray)) (inner:=[.string (⟨#[38]⟩ : ByteArray),.string (⟨#[33]⟩ : ByteArray)]) (ok:=fun _ => True) (okp:=fun _ => True) ?hr ?hp (fun _ hk => hk) trivial (Below.refl _ _) (Nat.le_refl _) (by simp) ?_;(case hd => rfl);(case hg => rfl);(case hr => first | (go_simp;done) | (go_simp;rfl));(case hp => exact (Reps.one (show Kd.M Kd.string _ _ _ (⟨#[38]⟩ : ByteArray) [.string (⟨#[38]⟩ : ByteArray)] from rfl) (Reps.one (show Kd.M Kd.string _ _ _ (⟨#[33]⟩ : ByteArray) [.string (⟨#[33]⟩ : ByteArray)] from rfl) (Reps.none _ _))));intro v169 w37 ho38 hb hg_ hnew_;clear hg_ hnew_;(first | rw [← Ny168.out] at ho38 | (simp only [Int.reduceToNat] at ho38;rw [← Ny168.out] at ho38));have n0_:=Aside0.mk (Kd.R_lower ho38 (keep_size (w:=w) (g:=g) (row:=none) (Up.Kp0 HK)));have n1_:=Aside0.mk (IsS79.below (Ip0 HI0) hb);have n2_:=Aside0.mk (KeepBut.trans (Up.Kp0 HK) (KeepBut.of_below hb g none) (.inl rfl));have n3_:=Aside0.mk (below_step (Up.Bs HB (IsS79.ge HI0.out)) hb);clear HI0 HK HB;have HO170:=n0_;have HI0:=n1_;have HK:=n2_;have HB:=n3_;clear n0_ n1_ n2_ n3_ hb ho38;obtain ⟨Ao39,co39,eo39⟩:=Kd.R_slice HO170.out;subst eo39) | ((with_reducible refine gate_callee (f:=47) rfl ?_);refine Up.gl (some 50) Tryd.func47 #[.pointer (some ⟨g,0,none⟩),.slice Ao39 y168.length co39] ?_;(with_reducible refine (spec_l6Rd_of.calls kj13 g s0_0 t167 _ _ y168 t171 t172 w0 _ ?side1 ?side2 ?side3 ?side4 ?side5 A34.out).mono ?_);(case side1 => repeat (first | (with_reducible first | exact HI0.out | apply IsS79.alloc | apply IsS79.drewN | apply IsS79.drew | apply IsS79.set_1) | exact HI0.out));(case side2 => repeat (first | (with_reducible first | exact HB.out | apply below_alloc | apply pw_below_drewN | apply below_drew1 | refine below_set ?_ (IsS79.ge HI0.out)) | exact HB.out));(case side3 => repeat (first | exact (Kd.R_reads' HO170.out).2.2 | (with_reducible refine Kd.C_alloc ?_ _) | (with_reducible refine Kd.C_drewN ?_ _) | (with_reducible refine Kd.C_drew ?_)));(case side4 => exact (Kd.R_reads' HO170.out).2.1);(case side5 => exact far_slice (IsS79.own_ne HI0.out HO170.out (by decide)));rintro e w40 ⟨rfl,hi,hb,hk⟩;refine ⟨_,rfl,?_⟩;have n0_:=Aside0.mk (Kd.R_mono (Kd.R_keep (IsS79.apart (show IsS79 w0 _ g s0_0 t167 from by repeat (first | (with_reducible first | exact HI0.out | apply IsS79.alloc | apply IsS79.drewN | apply IsS79.drew | apply IsS79.set_1) | exact HI0.out)) (Up.Rup HO170) (by decide)) hk (fun _ h => h.2)) (fun _ h => h.1));have n1_:=Aside0.mk (KeepBut.trans (Up.Kp0 HK) hk (.inl rfl));have n2_:=Aside0.mk (hb);have n3_:=Aside0.mk (hi);clear HO170 HK HB HI0;have HO170:=n0_;have HK:=n1_;have HB:=n2_;have HI0:=n3_;clear n0_ n1_ n2_ n3_;(try clear hb);(try clear hb2);(try clear hk);(try clear hi)))
        go_ret
        exact ⟨by first | rfl | (simp [errW_none,errW_some] <;> rfl) | (simp [*,errW_none,errW_some] <;> rfl),by repeat (first | (with_reducible first | exact HI0.out | apply IsS79.alloc | apply IsS79.drewN | apply IsS79.drew | apply IsS79.set_1) | exact HI0.out),by repeat (first | (with_reducible first | exact HB.out | apply below_alloc | apply pw_below_drewN | apply below_drew1 | refine below_set ?_ (IsS79.ge HI0.out)) | exact HB.out),by repeat (first | (with_reducible first | exact HK.out | apply KeepBut.set_ | apply keep_drewN | apply keep_drew | apply keep_alloc) | exact HK.out)⟩
       ·rw [if_neg c35] at H
        exact absurd H (by simp)
      ·rw [if_neg c33] at H
       have c33b0 : (t166 == 0) = false:=beq_eq_false_iff_ne.mpr c33
       have c33b1 : (t166 != 0) = true:=bne_iff_ne.mpr c33
       simp only [Option.some.injEq,Prod.mk.injEq] at H
       obtain ⟨rfl,rfl⟩:=H
       go_wp2_with (first | (go_at_call 46;(with_reducible refine (spec_l6Rd_pick.calls kj13 g s0_0 x1001_13 4 t166 t167 w0 _ ?side1 ?side2 A32.out).mono ?_);(case side1 => repeat (first | (with_reducible first | exact HI0.out | apply IsS79.alloc | apply IsS79.drewN | apply IsS79.drew | apply IsS79.set_1) | exact HI0.out));(case side2 => repeat (first | (with_reducible first | exact HB.out | apply below_alloc | apply pw_below_drewN | apply below_drew1 | refine below_set ?_ (IsS79.ge HI0.out)) | exact HB.out));rintro e w41 ⟨rfl,hi,hb,hk⟩;have n0_:=Aside0.mk (KeepBut.trans (Up.Kp0 HK) hk (.inl rfl));have n1_:=Aside0.mk (hb);have n2_:=Aside0.mk (hi);clear HK HB HI0;have HK:=n0_;have HB:=n1_;have HI0:=n2_;clear n0_ n1_ n2_;(try clear hb);(try clear hb2);(try clear hk);(try clear hi)))
       go_ret
       exact ⟨by first | rfl | (simp [errW_none,errW_some] <;> rfl) | (simp [*,errW_none,errW_some] <;> rfl),by repeat (first | (with_reducible first | exact HI0.out | apply IsS79.alloc | apply IsS79.drewN | apply IsS79.drew | apply IsS79.set_1) | exact HI0.out),by repeat (first | (with_reducible first | exact HB.out | apply below_alloc | apply pw_below_drewN | apply below_drew1 | refine below_set ?_ (IsS79.ge HI0.out)) | exact HB.out),by repeat (first | (with_reducible first | exact HK.out | apply KeepBut.set_ | apply keep_drewN | apply keep_drew | apply keep_alloc) | exact HK.out)⟩
     ·replace c31:=Bool.eq_false_iff.mpr c31
      subst c31
      have H1 : (some (x7_13,x1001_13)) = some (r1,r2):=by rw [if_neg (show ¬ (false = true) by decide)] at H;exact H
      clear H
      have H:=H1
      clear H1
      simp only [Option.some.injEq,Prod.mk.injEq] at H
      obtain ⟨rfl,rfl⟩:=H
      go_wp2
      go_ret
      exact ⟨by first | rfl | (simp [errW_none,errW_some] <;> rfl) | (simp [*,errW_none,errW_some] <;> rfl),by repeat (first | (with_reducible first | exact HI0.out | apply IsS79.alloc | apply IsS79.drewN | apply IsS79.drew | apply IsS79.set_1) | exact HI0.out),by repeat (first | (with_reducible first | exact HB.out | apply below_alloc | apply pw_below_drewN | apply below_drew1 | refine below_set ?_ (IsS79.ge HI0.out)) | exact HB.out),by repeat (first | (with_reducible first | exact HK.out | apply KeepBut.set_ | apply keep_drewN | apply keep_drew | apply keep_alloc) | exact HK.out)⟩

/-! ### spec_l91Num: function 50 -/
def spec_l91Num.f (k : Nat) (s0_0 : List Int) (s0_1 : Int) (l1 : List Int) : Option (Int × Int):=(spec_l6Rd_pick.f k s0_0 s0_1 (l1.length : Int)).bind fun bt173 => (if 0 ≤ bt173.1 then (if bt173.1 < (l1.length : Int) then (some (rd l1 bt173.1,bt173.2)) else (none)) else (none))
theorem spec_l91Num.mono : ∀ a0 a1 a2 k,LeO (spec_l91Num.f k a0 a1 a2) (spec_l91Num.f (k + 1) a0 a1 a2):=by
 intro a0 a1 a2 k
 unfold spec_l91Num.f
 repeat' first
   | (with_reducible exact spec_l6Rd_pick.mono _ _ _ _)
   | (with_reducible exact LeO.refl _)
   | (with_reducible exact LeO.none _)
   | (with_reducible refine LeO.ite ?_ ?_)
   | (with_reducible refine LeO.bind ?_ (fun _ => ?_))
   | exact spec_l6Rd_pick.mono _ _ _ _
   | exact LeO.none _
   | refine LeO.ite ?_ ?_
   | refine LeO.bind ?_ (fun _ => ?_)
set_option maxHeartbeats 8000000 in
set_option maxRecDepth 100000 in
theorem spec_l91Num.calls (k : Nat) (g : Nat) (s0_0 : List Int) (s0_1 : Int) (A1 : Option Addr) (c1 : Nat) (l1 : List Int) (r1 : Int) (r2 : Int) (w0 w : World) (hI : IsS79 w0 w g s0_0 s0_1) (hB : Below w0.heap.size w0 w) (hr1 : Kd.C (Kd.int .i64) w A1 l1.length l1) (hc1 : l1.length ≤ c1) (hf1 : ∀ ad,A1 = some ad → 0 < l1.length → ad.block ≠ g) (h : spec_l91Num.f k s0_0 s0_1 l1 = some (r1,r2)) :
  Calls Tryd.prog 50 #[.pointer (some ⟨g,0,none⟩),.slice A1 l1.length c1] w fun e w' => e = .returned (.int .i64 r1) ∧ IsS79 w0 w' g s0_0 r2 ∧ Below w0.heap.size w0 w' ∧ KeepBut w w' g none:=by
 have HR1:=Aside0.mk hr1
 have HC1:=Aside0.mk hc1
 clear hr1 hc1
 have HI0:=Aside0.mk hI
 have HK:=Aside0.mk (KeepBut.refl w g none)
 have HL:=Aside0.mk hB.size
 clear hI
 have HW0:=Aside0.mk hB.size
 have HB:=Aside0.mk hB
 clear hB
 have H : ((spec_l6Rd_pick.f k s0_0 s0_1 (l1.length : Int)).bind fun bt173 => (if 0 ≤ bt173.1 then (if bt173.1 < (l1.length : Int) then (some (rd l1 bt173.1,bt173.2)) else (none)) else (none))) = some (r1,r2):=h
 clear h
 replace H:=Option.bind_eq_some_iff.mp H
 obtain ⟨⟨t173,t174⟩,A30,H⟩:=H
 replace H : (if 0 ≤ t173 then (if t173 < (l1.length : Int) then (some (rd l1 t173,t174)) else (none)) else (none)) = some (r1,r2):=H
 have A3:=Aside0.mk A30
 clear A30
 by_cases c4 : 0 ≤ t173
 ·rw [if_pos c4] at H
  have c4b0 : decide (0 ≤ t173) = true:=decide_eq_true c4
  clear c4
  by_cases c5 : t173 < (l1.length : Int)
  ·rw [if_pos c5] at H
   have c5b0 : decide (t173 < (l1.length : Int)) = true:=decide_eq_true c5
   clear c5
   simp only [Option.some.injEq,Prod.mk.injEq] at H
   obtain ⟨rfl,rfl⟩:=H
   go_enter Tryd.func50,Tryd.ntmps50
   go_wp2_with (first | ((with_reducible refine gate_callee (f:=46) rfl ?_);refine Up.gl (some 9) Tryd.func46 #[.pointer (some ⟨g,0,none⟩),.int .i64 (l1.length : Int)] ?_;(with_reducible refine (spec_l6Rd_pick.calls k g s0_0 s0_1 (l1.length : Int) t173 t174 w0 _ ?side1 ?side2 A3.out).mono ?_);(case side1 => repeat (first | (with_reducible first | exact HI0.out | apply IsS79.alloc | apply IsS79.drewN | apply IsS79.drew | apply IsS79.set_1) | exact HI0.out));(case side2 => repeat (first | (with_reducible first | exact HB.out | apply below_alloc | apply pw_below_drewN | apply below_drew1 | refine below_set ?_ (IsS79.ge HI0.out)) | exact HB.out));rintro e w6 ⟨rfl,hi,hb,hk⟩;refine ⟨_,rfl,?_⟩;have n0_:=Aside0.mk (KeepBut.trans (Up.Kp0 HK) hk (.inl rfl));have n1_:=Aside0.mk (hb);have n2_:=Aside0.mk (hi);clear HK HB HI0;have HK:=n0_;have HB:=n1_;have HI0:=n2_;clear n0_ n1_ n2_;(try clear hb);(try clear hb2);(try clear hk);(try clear hi);have p175 : 0 ≤ (t173 : Int):=Up.od;have q175 : t173 < (l1.length : Int):=Up.od;obtain ⟨ad175,e175,hx175_0⟩:=Kd.at_int HR1.out t173 p175 q175;cases e175;replace hx175_0:=keep_cell HK.out hx175_0 (by first | (rw [add_block];exact hf1 _ rfl (by omega)) | exact hf1 _ rfl (by omega) | exact hf1 ad175 rfl (by omega));replace p175:=eq_true p175;replace q175:=eq_true q175))
   go_ret
   exact ⟨by first | rfl | (simp [errW_none,errW_some] <;> rfl) | (simp [*,errW_none,errW_some] <;> rfl),by repeat (first | (with_reducible first | exact HI0.out | apply IsS79.alloc | apply IsS79.drewN | apply IsS79.drew | apply IsS79.set_1) | exact HI0.out),by repeat (first | (with_reducible first | exact HB.out | apply below_alloc | apply pw_below_drewN | apply below_drew1 | refine below_set ?_ (IsS79.ge HI0.out)) | exact HB.out),by repeat (first | (with_reducible first | exact HK.out | apply KeepBut.set_ | apply keep_drewN | apply keep_drew | apply keep_alloc) | exact HK.out)⟩
  ·rw [if_neg c5] at H
   exact absurd H (by simp)
 ·rw [if_neg c4] at H
  exact absurd H (by simp)

end Go.Proofs.YtdgmlakgnbmbbaaDoor.OFnValueOk
