-- Laid by a program of this session (wip/myprint.py): the kit's print of the functions, contracts of our own among them.
import Derived.Test.YtdgmlakgnbmbbaaOFnValueCountx0
import Derived.Test.YtdgmlakgnbmbbaaOFnValueCountx1
import Derived.Test.YtdgmlakgnbmbbaaOFnValueCountx3
import Derived.Test.YtdgmlakgnbmbbaaOFnValueCountx4
import Derived.Test.YtdgmlakgnbmbbaaOFnValueCountx6
import Derived.Test.YtdgmlakgnbmbbaaOFnValueCountx7
namespace Go.Proofs.Ytdgmlakgnbmbbaa.OFnValueCount
open Go.RowKit Go.Proofs.YtdgmlakgnbmbbaaW.PrintWords Go.Proofs.YtdgmlakgnbmbbaaW.PrintLast Go.Proofs.YtdgmlakgnbmbbaaW.PrintMore
attribute [local go_sem] max2_int min2_int max_two min_two max_three min_three max_four min_four   -- for this text's walks alone
set_option linter.unusedVariables false
set_option linter.unusedSimpArgs false

/-! ### spec_l92Kind: function 47 -/
def spec_l92Kind.l0 : Nat → List (List (S113)) → Int → List Int → Int → Option (ByteArray × Int)
 | 0,_,_,_,_ => none
 | k + 1,x1,x5,x1000,x1001 => if x5 < 4 then ((spec_l91Type.f k x1000 x1001 x1 false).bind fun bt334 => (if (bt334.1.size : Int) = 3 then (some (bt334.1,bt334.2)) else (spec_l92Kind.l0 k x1 (wrap64 (x5 + 1)) x1000 bt334.2))) else (some ((⟨#[83,48,48]⟩ : ByteArray),x1001))
def spec_l92Kind.f (k : Nat) (s0_0 : List Int) (s0_1 : Int) (l1 : List (List (S113))) : Option (ByteArray × Int):=(spec_l6Rd_pick.f k s0_0 s0_1 12).bind fun bt327 => (if bt327.1 = 0 then ((spec_l6Rd_of.f k s0_0 bt327.2 (([(⟨#[110]⟩ : ByteArray),(⟨#[83,48,57]⟩ : ByteArray),(⟨#[]⟩ : ByteArray),(⟨#[38,83,48,48]⟩ : ByteArray),(⟨#[83]⟩ : ByteArray)] : List ByteArray))).bind fun bt332 => (some (bt332.1,bt332.2))) else (spec_l92Kind.l0 k l1 0 s0_0 bt327.2))
theorem spec_l92Kind.mono_l : ∀ k,(∀ y0 y1 y2 y3,LeO (spec_l92Kind.l0 k y0 y1 y2 y3) (spec_l92Kind.l0 (k + 1) y0 y1 y2 y3))
 | 0 => fun _ _ _ _ r h => by simp [spec_l92Kind.l0] at h
 | k + 1 => by
  have ih0:=spec_l92Kind.mono_l k
  ·intro y0 y1 y2 y3
   unfold spec_l92Kind.l0
   repeat' first
   | (with_reducible exact ih0 _ _ _ _)
   | (with_reducible exact spec_l6Rd_of.mono _ _ _ _)
   | (with_reducible exact spec_l6Rd_pick.mono _ _ _ _)
   | (with_reducible exact spec_l91Type.mono _ _ _ _ _)
   | (with_reducible exact LeO.refl _)
   | (with_reducible exact LeO.none _)
   | (with_reducible refine LeO.ite ?_ ?_)
   | (with_reducible refine LeO.bind ?_ (fun _ => ?_))
   | exact ih0 _ _ _ _
   | exact spec_l6Rd_of.mono _ _ _ _
   | exact spec_l6Rd_pick.mono _ _ _ _
   | exact spec_l91Type.mono _ _ _ _ _
   | exact LeO.none _
   | refine LeO.ite ?_ ?_
   | refine LeO.bind ?_ (fun _ => ?_)
theorem spec_l92Kind.mono : ∀ a0 a1 a2 k,LeO (spec_l92Kind.f k a0 a1 a2) (spec_l92Kind.f (k + 1) a0 a1 a2):=by
 intro a0 a1 a2 k
 have ih0:=spec_l92Kind.mono_l k
 unfold spec_l92Kind.f
 repeat' first
   | (with_reducible exact ih0 _ _ _ _)
   | (with_reducible exact spec_l6Rd_of.mono _ _ _ _)
   | (with_reducible exact spec_l6Rd_pick.mono _ _ _ _)
   | (with_reducible exact spec_l91Type.mono _ _ _ _ _)
   | (with_reducible exact LeO.refl _)
   | (with_reducible exact LeO.none _)
   | (with_reducible refine LeO.ite ?_ ?_)
   | (with_reducible refine LeO.bind ?_ (fun _ => ?_))
   | exact ih0 _ _ _ _
   | exact spec_l6Rd_of.mono _ _ _ _
   | exact spec_l6Rd_pick.mono _ _ _ _
   | exact spec_l91Type.mono _ _ _ _ _
   | exact LeO.none _
   | refine LeO.ite ?_ ?_
   | refine LeO.bind ?_ (fun _ => ?_)
set_option maxHeartbeats 8000000 in
set_option maxRecDepth 100000 in
theorem spec_l92Kind.calls (k : Nat) (g : Nat) (s0_0 : List Int) (s0_1 : Int) (A1 : Option Addr) (c1 : Nat) (l1 : List (List (S113))) (r1 : ByteArray) (r2 : Int) (w0 w : World) (hI : IsS110 w0 w g s0_0 s0_1) (hB : Below w0.heap.size w0 w) (hr1 : ∀ W_,KeepBut w W_ g none → Kd.C (Kd.slice 113 k113) W_ A1 l1.length l1) (hc1 : l1.length ≤ c1) (h : spec_l92Kind.f k s0_0 s0_1 l1 = some (r1,r2)) :
  Calls Try.prog 47 #[.pointer (some ⟨g,0,none⟩),.slice A1 l1.length c1] w fun e w' => e = .returned (.string r1) ∧ IsS110 w0 w' g s0_0 r2 ∧ Below w0.heap.size w0 w' ∧ KeepBut w w' g none:=by
 have HR1:=Aside0.mk hr1
 have HC1:=Aside0.mk hc1
 clear hr1 hc1
 have HI0:=Aside0.mk hI
 have HK:=Aside0.mk (KeepBut.refl w g none)
 have HL:=Aside0.mk hB.size
 clear hI
 have HW0:=Aside0.mk hB.size
 have HB:=Aside0.mk hB
 clear hB
 have H : ((spec_l6Rd_pick.f k s0_0 s0_1 12).bind fun bt327 => (if bt327.1 = 0 then ((spec_l6Rd_of.f k s0_0 bt327.2 (([(⟨#[110]⟩ : ByteArray),(⟨#[83,48,57]⟩ : ByteArray),(⟨#[]⟩ : ByteArray),(⟨#[38,83,48,48]⟩ : ByteArray),(⟨#[83]⟩ : ByteArray)] : List ByteArray))).bind fun bt332 => (some (bt332.1,bt332.2))) else (spec_l92Kind.l0 k l1 0 s0_0 bt327.2))) = some (r1,r2):=h
 clear h
 replace H:=Option.bind_eq_some_iff.mp H
 obtain ⟨⟨t327,t328⟩,A30,H⟩:=H
 replace H : (if t327 = 0 then ((spec_l6Rd_of.f k s0_0 t328 (([(⟨#[110]⟩ : ByteArray),(⟨#[83,48,57]⟩ : ByteArray),(⟨#[]⟩ : ByteArray),(⟨#[38,83,48,48]⟩ : ByteArray),(⟨#[83]⟩ : ByteArray)] : List ByteArray))).bind fun bt332 => (some (bt332.1,bt332.2))) else (spec_l92Kind.l0 k l1 0 s0_0 t328)) = some (r1,r2):=H
 have A3:=Aside0.mk A30
 clear A30
 by_cases c4 : t327 = 0
 ·rw [if_pos c4] at H
  have c4b0 : (t327 == 0) = true:=beq_iff_eq.mpr c4
  have c4b1 : (t327 != 0) = false:=bne_eq_false_iff_eq.mpr c4
  clear c4
  obtain ⟨y329,hy329⟩ : ∃ y_ : List ByteArray,y_ = (([(⟨#[110]⟩ : ByteArray),(⟨#[83,48,57]⟩ : ByteArray),(⟨#[]⟩ : ByteArray),(⟨#[38,83,48,48]⟩ : ByteArray),(⟨#[83]⟩ : ByteArray)] : List ByteArray)):=⟨_,rfl⟩
  replace H : ((spec_l6Rd_of.f k s0_0 t328 y329).bind fun bt332 => (some (bt332.1,bt332.2))) = some (r1,r2):=by first | (rw [hy329];with_reducible exact H) | (have H2_:=(Option.bind_some _ _).symm.trans H;rw [hy329];with_reducible exact H2_) | (have H2_:=(Option.bind_some _ _).symm.trans H;with_reducible exact H2_) | with_reducible exact H | (rw [hy329];exact H) | exact H
  have Ny329:=Aside0.mk hy329
  clear hy329
  replace H:=Option.bind_eq_some_iff.mp H
  obtain ⟨⟨t332,t333⟩,A50,H⟩:=H
  replace H : (some (t332,t333)) = some (r1,r2):=H
  have A5:=Aside0.mk A50
  clear A50
  simp only [Option.some.injEq,Prod.mk.injEq] at H
  obtain ⟨rfl,rfl⟩:=H
  go_enter Try.func47,Try.ntmps47
  go_wp2_with (first | ((with_reducible refine gate_callee (f:=65) rfl ?_);refine Up.gl (some 8) Try.func65 #[.pointer (some ⟨g,0,none⟩),.int .i64 12] ?_;(with_reducible refine (spec_l6Rd_pick.calls k g s0_0 s0_1 12 t327 t328 w0 _ ?side1 ?side2 A3.out).mono ?_);(case side1 => repeat (first | (with_reducible first | exact HI0.out | apply IsS110.alloc | apply IsS110.drewN | apply IsS110.drew | apply IsS110.set_1) | exact HI0.out));(case side2 => repeat (first | (with_reducible first | exact HB.out | apply below_alloc | apply pw_below_drewN | apply below_drew1 | refine below_set ?_ (IsS110.ge HI0.out)) | exact HB.out));rintro e w6 ⟨rfl,hi,hb,hk⟩;refine ⟨_,rfl,?_⟩;have n0_:=Aside0.mk (KeepBut.trans (Up.Kp0 HK) hk (.inl rfl));have n1_:=Aside0.mk (hb);have n2_:=Aside0.mk (hi);clear HK HB HI0;have HK:=n0_;have HB:=n1_;have HI0:=n2_;clear n0_ n1_ n2_;(try clear hb);(try clear hb2);(try clear hk);(try clear hi)) | ((with_reducible refine gate_dst (N:=11) rfl ?_);refine Kd.R_lit Kd.string _ 9 ?hg (N:=11) ?hd (xs:=([(⟨#[110]⟩ : ByteArray),(⟨#[83,48,57]⟩ : ByteArray),(⟨#[]⟩ : ByteArray),(⟨#[38,83,48,48]⟩ : ByteArray),(⟨#[83]⟩ : ByteArray)] : List ByteArray)) (inner:=[.string (⟨#[110]⟩ : ByteArray),.string (⟨#[83,48,57]⟩ : ByteArray),.string (⟨#[]⟩ : ByteArray),.string (⟨#[38,83,48,48]⟩ : ByteArray),.string (⟨#[83]⟩ : ByteArray)]) (ok:=fun _ => True) (okp:=fun _ => True) ?hr ?hp (fun _ hk => hk) trivial (Below.refl _ _) (Nat.le_refl _) (by simp) ?_;(case hd => rfl);(case hg => rfl);(case hr => first | (go_simp;done) | (go_simp;rfl));(case hp => exact (Reps.one (show Kd.M Kd.string _ _ _ (⟨#[110]⟩ : ByteArray) [.string (⟨#[110]⟩ : ByteArray)] from rfl) (Reps.one (show Kd.M Kd.string _ _ _ (⟨#[83,48,57]⟩ : ByteArray) [.string (⟨#[83,48,57]⟩ : ByteArray)] from rfl) (Reps.one (show Kd.M Kd.string _ _ _ (⟨#[]⟩ : ByteArray) [.string (⟨#[]⟩ : ByteArray)] from rfl) (Reps.one (show Kd.M Kd.string _ _ _ (⟨#[38,83,48,48]⟩ : ByteArray) [.string (⟨#[38,83,48,48]⟩ : ByteArray)] from rfl) (Reps.one (show Kd.M Kd.string _ _ _ (⟨#[83]⟩ : ByteArray) [.string (⟨#[83]⟩ : ByteArray)] from rfl) (Reps.none _ _)))))));intro v330 w7 ho8 hb hg_ hnew_;clear hg_ hnew_;(first | rw [← Ny329.out] at ho8 | (simp only [Int.reduceToNat] at ho8;rw [← Ny329.out] at ho8));have n0_:=Aside0.mk (Kd.R_lower ho8 (keep_size (w:=w) (g:=g) (row:=none) (Up.Kp0 HK)));have n1_:=Aside0.mk (IsS110.below (Ip0 HI0) hb);have n2_:=Aside0.mk (KeepBut.trans (Up.Kp0 HK) (KeepBut.of_below hb g none) (.inl rfl));have n3_:=Aside0.mk (below_step (Up.Bs HB (IsS110.ge HI0.out)) hb);clear HI0 HK HB;have HO331:=n0_;have HI0:=n1_;have HK:=n2_;have HB:=n3_;clear n0_ n1_ n2_ n3_ hb ho8;obtain ⟨Ao9,co9,eo9⟩:=Kd.R_slice HO331.out;subst eo9) | ((with_reducible refine gate_callee (f:=86) rfl ?_);refine Up.gl (some 12) Try.func86 #[.pointer (some ⟨g,0,none⟩),.slice Ao9 y329.length co9] ?_;(with_reducible refine (spec_l6Rd_of.calls k g s0_0 t328 _ _ y329 t332 t333 w0 _ ?side1 ?side2 ?side3 ?side4 ?side5 A5.out).mono ?_);(case side1 => repeat (first | (with_reducible first | exact HI0.out | apply IsS110.alloc | apply IsS110.drewN | apply IsS110.drew | apply IsS110.set_1) | exact HI0.out));(case side2 => repeat (first | (with_reducible first | exact HB.out | apply below_alloc | apply pw_below_drewN | apply below_drew1 | refine below_set ?_ (IsS110.ge HI0.out)) | exact HB.out));(case side3 => repeat (first | exact (Kd.R_reads' HO331.out).2.2 | (with_reducible refine Kd.C_alloc ?_ _) | (with_reducible refine Kd.C_drewN ?_ _) | (with_reducible refine Kd.C_drew ?_)));(case side4 => exact (Kd.R_reads' HO331.out).2.1);(case side5 => exact far_slice (IsS110.own_ne HI0.out HO331.out (by decide)));rintro e w10 ⟨rfl,hi,hb,hk⟩;refine ⟨_,rfl,?_⟩;have n0_:=Aside0.mk (Kd.R_mono (Kd.R_keep (IsS110.apart (show IsS110 w0 _ g s0_0 t328 from by repeat (first | (with_reducible first | exact HI0.out | apply IsS110.alloc | apply IsS110.drewN | apply IsS110.drew | apply IsS110.set_1) | exact HI0.out)) (Up.Rup HO331) (by decide)) hk (fun _ h => h.2)) (fun _ h => h.1));have n1_:=Aside0.mk (KeepBut.trans (Up.Kp0 HK) hk (.inl rfl));have n2_:=Aside0.mk (hb);have n3_:=Aside0.mk (hi);clear HO331 HK HB HI0;have HO331:=n0_;have HK:=n1_;have HB:=n2_;have HI0:=n3_;clear n0_ n1_ n2_ n3_;(try clear hb);(try clear hb2);(try clear hk);(try clear hi)))
  go_ret
  exact ⟨by first | rfl | (simp [errW_none,errW_some] <;> rfl) | (simp [*,errW_none,errW_some] <;> rfl),by repeat (first | (with_reducible first | exact HI0.out | apply IsS110.alloc | apply IsS110.drewN | apply IsS110.drew | apply IsS110.set_1) | exact HI0.out),by repeat (first | (with_reducible first | exact HB.out | apply below_alloc | apply pw_below_drewN | apply below_drew1 | refine below_set ?_ (IsS110.ge HI0.out)) | exact HB.out),by repeat (first | (with_reducible first | exact HK.out | apply KeepBut.set_ | apply keep_drewN | apply keep_drew | apply keep_alloc) | exact HK.out)⟩
 ·rw [if_neg c4] at H
  have c4b0 : (t327 == 0) = false:=beq_eq_false_iff_ne.mpr c4
  have c4b1 : (t327 != 0) = true:=bne_iff_ne.mpr c4
  have H':=Aside0.mk H
  clear H
  go_enter Try.func47,Try.ntmps47
  go_wp2_with (first | ((with_reducible refine gate_callee (f:=65) rfl ?_);refine Up.gl (some 8) Try.func65 #[.pointer (some ⟨g,0,none⟩),.int .i64 12] ?_;(with_reducible refine (spec_l6Rd_pick.calls k g s0_0 s0_1 12 t327 t328 w0 _ ?side1 ?side2 A3.out).mono ?_);(case side1 => repeat (first | (with_reducible first | exact HI0.out | apply IsS110.alloc | apply IsS110.drewN | apply IsS110.drew | apply IsS110.set_1) | exact HI0.out));(case side2 => repeat (first | (with_reducible first | exact HB.out | apply below_alloc | apply pw_below_drewN | apply below_drew1 | refine below_set ?_ (IsS110.ge HI0.out)) | exact HB.out));rintro e w11 ⟨rfl,hi,hb,hk⟩;refine ⟨_,rfl,?_⟩;have n0_:=Aside0.mk (KeepBut.trans (Up.Kp0 HK) hk (.inl rfl));have n1_:=Aside0.mk (hb);have n2_:=Aside0.mk (hi);clear HK HB HI0;have HK:=n0_;have HB:=n1_;have HI0:=n2_;clear n0_ n1_ n2_;(try clear hb);(try clear hb2);(try clear hk);(try clear hi)))
  go_loopg [5] k (fun kq v5 w' => ∃ (x5_1 : Int) (x1001_1 : Int),v5 = .int .i64 x5_1 ∧ Aside0 (spec_l92Kind.l0 kq l1 x5_1 s0_0 x1001_1 = some (r1,r2)) ∧ Aside0 (kq ≤ k) ∧ Aside0 (IsS110 w0 w' g s0_0 x1001_1) ∧ Aside0 (KeepBut w w' g none) ∧ Aside0 (Below w0.heap.size w0 w'))
  case atStart => exact ⟨(0),(t328),(by first | rfl | (simp;done) | (simp [*];done)),H',⟨Nat.le_refl _⟩,⟨by repeat (first | (with_reducible first | exact HI0.out | apply IsS110.alloc | apply IsS110.drewN | apply IsS110.drew | apply IsS110.set_1) | exact HI0.out)⟩,⟨by repeat (first | (with_reducible first | exact HK.out | apply KeepBut.set_ | apply keep_drewN | apply keep_drew | apply keep_alloc) | exact HK.out)⟩,⟨by repeat (first | (with_reducible first | exact HB.out | apply below_alloc | apply pw_below_drewN | apply below_drew1 | refine below_set ?_ (IsS110.ge HI0.out)) | exact HB.out)⟩⟩
  case round =>
   clear H'
   try clear c1
   try clear p2
   try clear c4
   try clear c4b0
   try clear c4b1
   try clear c6
   try clear c8
   obtain ⟨x5_1,x1001_1,rfl,HA,HK1,HI0,HK,HB⟩:=hrel
   cases gk with
   | zero => exact absurd HA.out (by simp [spec_l92Kind.l0])
   | succ k1 =>
    have H:=HA.out
    clear HA
    simp only [spec_l92Kind.l0] at H
    by_cases c12 : x5_1 < 4
    ·rw [if_pos c12] at H
     have c12b0 : decide (x5_1 < 4) = true:=decide_eq_true c12
     clear c12
     replace H:=Option.bind_eq_some_iff.mp H
     obtain ⟨⟨t334,t335⟩,A130,H⟩:=H
     replace H : (if (t334.size : Int) = 3 then (some (t334,t335)) else (spec_l92Kind.l0 k1 l1 (wrap64 (x5_1 + 1)) s0_0 t335)) = some (r1,r2):=H
     have A13:=Aside0.mk A130
     clear A130
     by_cases c14 : (t334.size : Int) = 3
     ·rw [if_pos c14] at H
      have c14b0 : ((t334.size : Int) == 3) = true:=beq_iff_eq.mpr c14
      have c14b1 : ((t334.size : Int) != 3) = false:=bne_eq_false_iff_eq.mpr c14
      clear c14
      simp only [Option.some.injEq,Prod.mk.injEq] at H
      obtain ⟨rfl,rfl⟩:=H
      go_wp2_with (first | ((with_reducible refine gate_callee (f:=42) rfl ?_);refine Up.gl (some 19) Try.func42 #[.pointer (some ⟨g,0,none⟩),.slice A1 l1.length c1,.bool false] ?_;(with_reducible refine (spec_l91Type.calls k1 g s0_0 x1001_1 _ _ l1 false t334 t335 w0 _ ?side1 ?side2 ?side3 ?side4 A13.out).mono ?_);(case side1 => repeat (first | (with_reducible first | exact HI0.out | apply IsS110.alloc | apply IsS110.drewN | apply IsS110.drew | apply IsS110.set_1) | exact HI0.out));(case side2 => repeat (first | (with_reducible first | exact HB.out | apply below_alloc | apply pw_below_drewN | apply below_drew1 | refine below_set ?_ (IsS110.ge HI0.out)) | exact HB.out));(case side3 => exact Kd.C_foot_step HR1.out (Up.Kp0 HK));(case side4 => exact HC1.out);rintro e w15 ⟨rfl,hi,hb,hk⟩;refine ⟨_,rfl,?_⟩;have n0_:=Aside0.mk (KeepBut.trans (Up.Kp0 HK) hk (.inl rfl));have n1_:=Aside0.mk (hb);have n2_:=Aside0.mk (hi);clear HK HB HI0;have HK:=n0_;have HB:=n1_;have HI0:=n2_;clear n0_ n1_ n2_;(try clear hb);(try clear hb2);(try clear hk);(try clear hi)))
      go_ret
      exact ⟨by first | rfl | (simp [errW_none,errW_some] <;> rfl) | (simp [*,errW_none,errW_some] <;> rfl),by repeat (first | (with_reducible first | exact HI0.out | apply IsS110.alloc | apply IsS110.drewN | apply IsS110.drew | apply IsS110.set_1) | exact HI0.out),by repeat (first | (with_reducible first | exact HB.out | apply below_alloc | apply pw_below_drewN | apply below_drew1 | refine below_set ?_ (IsS110.ge HI0.out)) | exact HB.out),by repeat (first | (with_reducible first | exact HK.out | apply KeepBut.set_ | apply keep_drewN | apply keep_drew | apply keep_alloc) | exact HK.out)⟩
     ·rw [if_neg c14] at H
      have c14b0 : ((t334.size : Int) == 3) = false:=beq_eq_false_iff_ne.mpr c14
      have c14b1 : ((t334.size : Int) != 3) = true:=bne_iff_ne.mpr c14
      have H':=Aside0.mk H
      clear H
      go_wp2_with (first | ((with_reducible refine gate_callee (f:=42) rfl ?_);refine Up.gl (some 19) Try.func42 #[.pointer (some ⟨g,0,none⟩),.slice A1 l1.length c1,.bool false] ?_;(with_reducible refine (spec_l91Type.calls k1 g s0_0 x1001_1 _ _ l1 false t334 t335 w0 _ ?side1 ?side2 ?side3 ?side4 A13.out).mono ?_);(case side1 => repeat (first | (with_reducible first | exact HI0.out | apply IsS110.alloc | apply IsS110.drewN | apply IsS110.drew | apply IsS110.set_1) | exact HI0.out));(case side2 => repeat (first | (with_reducible first | exact HB.out | apply below_alloc | apply pw_below_drewN | apply below_drew1 | refine below_set ?_ (IsS110.ge HI0.out)) | exact HB.out));(case side3 => exact Kd.C_foot_step HR1.out (Up.Kp0 HK));(case side4 => exact HC1.out);rintro e w16 ⟨rfl,hi,hb,hk⟩;refine ⟨_,rfl,?_⟩;have n0_:=Aside0.mk (KeepBut.trans (Up.Kp0 HK) hk (.inl rfl));have n1_:=Aside0.mk (hb);have n2_:=Aside0.mk (hi);clear HK HB HI0;have HK:=n0_;have HB:=n1_;have HI0:=n2_;clear n0_ n1_ n2_;(try clear hb);(try clear hb2);(try clear hk);(try clear hi)))
      go_roundg k1
      case measure => have:=HK1.out;omega
      case rel => exact ⟨(wrap64 (x5_1 + 1)),(t335),(by first | rfl | (simp;done) | (simp [*];done)),H',⟨by have:=HK1.out;omega⟩,⟨by repeat (first | (with_reducible first | exact HI0.out | apply IsS110.alloc | apply IsS110.drewN | apply IsS110.drew | apply IsS110.set_1) | exact HI0.out)⟩,⟨by repeat (first | (with_reducible first | exact HK.out | apply KeepBut.set_ | apply keep_drewN | apply keep_drew | apply keep_alloc) | exact HK.out)⟩,⟨by repeat (first | (with_reducible first | exact HB.out | apply below_alloc | apply pw_below_drewN | apply below_drew1 | refine below_set ?_ (IsS110.ge HI0.out)) | exact HB.out)⟩⟩
    ·rw [if_neg c12] at H
     have c12b0 : decide (x5_1 < 4) = false:=decide_eq_false c12
     clear c12
     simp only [Option.some.injEq,Prod.mk.injEq] at H
     obtain ⟨rfl,rfl⟩:=H
     go_wp2
     go_ret
     exact ⟨by first | rfl | (simp [errW_none,errW_some] <;> rfl) | (simp [*,errW_none,errW_some] <;> rfl),by repeat (first | (with_reducible first | exact HI0.out | apply IsS110.alloc | apply IsS110.drewN | apply IsS110.drew | apply IsS110.set_1) | exact HI0.out),by repeat (first | (with_reducible first | exact HB.out | apply below_alloc | apply pw_below_drewN | apply below_drew1 | refine below_set ?_ (IsS110.ge HI0.out)) | exact HB.out),by repeat (first | (with_reducible first | exact HK.out | apply KeepBut.set_ | apply keep_drewN | apply keep_drew | apply keep_alloc) | exact HK.out)⟩

/-! ### spec_DrawValueCount: function 15 -/
def spec_DrawValueCount.f (k : Nat) (l0 : List Int) : Option ((List (List (S113))) × ByteArray × Int × (List (S27)) × List Int × ByteArray):=(spec_l6Open.f l0).bind fun bt337 => ((spec_l91Kinds.f k bt337.1 bt337.2).bind fun bt340 => ((spec_l91Type.f k bt337.1 bt340.2 bt340.1 false).bind fun bt344 => ((spec_l91Value.f k bt337.1 bt344.2 bt340.1 bt344.1).bind fun bt346 => ((spec_l91Bad.f k bt337.1 bt346.2.2.2.2 bt346.1 bt346.2.1 bt346.2.2.1 bt346.2.2.2.1).bind fun bt355 => ((spec_l92Kind.f k bt337.1 bt355.2.2.2.2 bt340.1).bind fun bt365 => (some (bt340.1,bt355.1,bt355.2.1,bt355.2.2.1,bt355.2.2.2.1,bt365.1)))))))
theorem spec_DrawValueCount.mono : ∀ a0 k,LeO (spec_DrawValueCount.f k a0) (spec_DrawValueCount.f (k + 1) a0):=by
 intro a0 k
 unfold spec_DrawValueCount.f
 repeat' first
   | (with_reducible exact spec_l91Bad.mono _ _ _ _ _ _ _)
   | (with_reducible exact spec_l91Kinds.mono _ _ _)
   | (with_reducible exact spec_l91Type.mono _ _ _ _ _)
   | (with_reducible exact spec_l91Value.mono _ _ _ _ _)
   | (with_reducible exact spec_l92Kind.mono _ _ _ _)
   | (with_reducible exact LeO.refl _)
   | (with_reducible exact LeO.none _)
   | (with_reducible refine LeO.ite ?_ ?_)
   | (with_reducible refine LeO.bind ?_ (fun _ => ?_))
   | exact spec_l91Bad.mono _ _ _ _ _ _ _
   | exact spec_l91Kinds.mono _ _ _
   | exact spec_l91Type.mono _ _ _ _ _
   | exact spec_l91Value.mono _ _ _ _ _
   | exact spec_l92Kind.mono _ _ _ _
   | exact LeO.none _
   | refine LeO.ite ?_ ?_
   | refine LeO.bind ?_ (fun _ => ?_)
set_option maxHeartbeats 8000000 in
set_option maxRecDepth 100000 in
theorem spec_DrawValueCount.calls (k : Nat) (A0 : Option Addr) (c0 : Nat) (l0 : List Int) (r1 : List (List (S113))) (r2 : ByteArray) (r3 : Int) (r4 : List (S27)) (r5 : List Int) (r6 : ByteArray) (w : World) (hr0 : Kd.C (Kd.int .u8) w A0 l0.length l0) (hc0 : l0.length ≤ c0) (h : spec_DrawValueCount.f k l0 = some (r1,r2,r3,r4,r5,r6)) :
  Calls Try.prog 15 #[.slice A0 l0.length c0] w fun e w' => ∃ v0_ v3_ v4_ : Value,e = .returned (.tuple #[v0_,.agg #[.string r2,.int .i64 r3,v3_,v4_],.string r6]) ∧ Kd.N (Kd.slice 113 k113) 82 w' w.heap.size (fun k_ => (w.heap.size ≤ k_)) v0_ r1 ∧ Kd.V k27 27 w' w.heap.size (fun k_ => (w.heap.size ≤ k_) ∧ some k_ ≠ (v0_ : Value).ownBlock) v3_ r4 ∧ Kd.V (Kd.int .i64) 3 w' w.heap.size (fun k_ => (w.heap.size ≤ k_) ∧ some k_ ≠ (v0_ : Value).ownBlock) v4_ r5 ∧ Below w.heap.size w w':=by
 have hu27:=Try.underlying27
 have HR0:=Aside0.mk hr0
 have HC0:=Aside0.mk hc0
 clear hr0 hc0
 have HB:=Aside0.mk (Below.refl w.heap.size w)
 have H : ((spec_l6Open.f l0).bind fun bt337 => ((spec_l91Kinds.f k bt337.1 bt337.2).bind fun bt340 => ((spec_l91Type.f k bt337.1 bt340.2 bt340.1 false).bind fun bt344 => ((spec_l91Value.f k bt337.1 bt344.2 bt340.1 bt344.1).bind fun bt346 => ((spec_l91Bad.f k bt337.1 bt346.2.2.2.2 bt346.1 bt346.2.1 bt346.2.2.1 bt346.2.2.2.1).bind fun bt355 => ((spec_l92Kind.f k bt337.1 bt355.2.2.2.2 bt340.1).bind fun bt365 => (some (bt340.1,bt355.1,bt355.2.1,bt355.2.2.1,bt355.2.2.2.1,bt365.1)))))))) = some (r1,r2,r3,r4,r5,r6):=h
 clear h
 replace H:=Option.bind_eq_some_iff.mp H
 obtain ⟨⟨t337,t338⟩,A20,H⟩:=H
 replace H : ((spec_l91Kinds.f k t337 t338).bind fun bt340 => ((spec_l91Type.f k t337 bt340.2 bt340.1 false).bind fun bt344 => ((spec_l91Value.f k t337 bt344.2 bt340.1 bt344.1).bind fun bt346 => ((spec_l91Bad.f k t337 bt346.2.2.2.2 bt346.1 bt346.2.1 bt346.2.2.1 bt346.2.2.2.1).bind fun bt355 => ((spec_l92Kind.f k t337 bt355.2.2.2.2 bt340.1).bind fun bt365 => (some (bt340.1,bt355.1,bt355.2.1,bt355.2.2.1,bt355.2.2.2.1,bt365.1))))))) = some (r1,r2,r3,r4,r5,r6):=H
 have A2:=Aside0.mk A20
 clear A20
 replace H:=Option.bind_eq_some_iff.mp H
 obtain ⟨⟨t340,t343⟩,A30,H⟩:=H
 replace H : ((spec_l91Type.f k t337 t343 t340 false).bind fun bt344 => ((spec_l91Value.f k t337 bt344.2 t340 bt344.1).bind fun bt346 => ((spec_l91Bad.f k t337 bt346.2.2.2.2 bt346.1 bt346.2.1 bt346.2.2.1 bt346.2.2.2.1).bind fun bt355 => ((spec_l92Kind.f k t337 bt355.2.2.2.2 t340).bind fun bt365 => (some (t340,bt355.1,bt355.2.1,bt355.2.2.1,bt355.2.2.2.1,bt365.1)))))) = some (r1,r2,r3,r4,r5,r6):=H
 have A3:=Aside0.mk A30
 clear A30
 replace H:=Option.bind_eq_some_iff.mp H
 obtain ⟨⟨t344,t345⟩,A40,H⟩:=H
 replace H : ((spec_l91Value.f k t337 t345 t340 t344).bind fun bt346 => ((spec_l91Bad.f k t337 bt346.2.2.2.2 bt346.1 bt346.2.1 bt346.2.2.1 bt346.2.2.2.1).bind fun bt355 => ((spec_l92Kind.f k t337 bt355.2.2.2.2 t340).bind fun bt365 => (some (t340,bt355.1,bt355.2.1,bt355.2.2.1,bt355.2.2.2.1,bt365.1))))) = some (r1,r2,r3,r4,r5,r6):=H
 have A4:=Aside0.mk A40
 clear A40
 replace H:=Option.bind_eq_some_iff.mp H
 obtain ⟨⟨t346,t347,t348,t351,t354⟩,A50,H⟩:=H
 replace H : ((spec_l91Bad.f k t337 t354 t346 t347 t348 t351).bind fun bt355 => ((spec_l92Kind.f k t337 bt355.2.2.2.2 t340).bind fun bt365 => (some (t340,bt355.1,bt355.2.1,bt355.2.2.1,bt355.2.2.2.1,bt365.1)))) = some (r1,r2,r3,r4,r5,r6):=H
 have A5:=Aside0.mk A50
 clear A50
 replace H:=Option.bind_eq_some_iff.mp H
 obtain ⟨⟨t355,t356,t357,t360,t363⟩,A60,H⟩:=H
 replace H : ((spec_l92Kind.f k t337 t363 t340).bind fun bt365 => (some (t340,t355,t356,t357,t360,bt365.1))) = some (r1,r2,r3,r4,r5,r6):=H
 have A6:=Aside0.mk A60
 clear A60
 replace H:=Option.bind_eq_some_iff.mp H
 obtain ⟨⟨t365,t366⟩,A70,H⟩:=H
 replace H : (some (t340,t355,t356,t357,t360,t365)) = some (r1,r2,r3,r4,r5,r6):=H
 have A7:=Aside0.mk A70
 clear A70
 simp only [Option.some.injEq,Prod.mk.injEq] at H
 obtain ⟨rfl,rfl,rfl,rfl,rfl,rfl⟩:=H
 go_enter Try.func15,Try.ntmps15
 try go_wp2_with (first | ((with_reducible refine gate_dst (N:=3) rfl ?_);refine Up.bx 3 27 #[.string (⟨#[]⟩ : ByteArray),.int .i64 0,.slice none 0 0,.slice none 0 0] ?_;intro gb336 hg w8 hbox hb;have n0_:=Up.BB HB hb;have n1_:=Aside0.mk (hbox);have n2_:=Up.gw hg HB;have n3_:=Up.gw hg HB;clear HB;have HB:=n0_;have BK336:=n1_;have GW336:=n2_;have GE336:=n3_;clear n0_ n1_ n2_ n3_ hb hbox hg) | ((with_reducible refine gate_callee (f:=38) rfl ?_);refine Up.gl (some 10) Try.func38 #[.slice A0 l0.length c0] ?_;(with_reducible refine (spec_l6Open.calls _ _ l0 t337 t338 w _ ?side1 ?side2 ?side3 A2.out).mono ?_);(case side1 => repeat (first | (with_reducible first | exact HB.out | apply below_alloc | apply pw_below_drewN | apply below_drew1 | refine below_set ?_ GE336.out) | exact HB.out));(case side2 => exact HR0.out);(case side3 => exact HC0.out);rintro e w9 ⟨g339,rfl,hi,hb,hb2⟩;refine ⟨_,rfl,?_⟩;have n0_:=Aside0.mk (blk_below (g:=gb336) (o:=.cells #[.string (⟨#[]⟩ : ByteArray),.int .i64 0,.slice none 0 0,.slice none 0 0] 27 (0,0)) (Up.Kup BK336) hb2);have n1_:=Aside0.mk (hb);have n2_:=Aside0.mk (hi);have n3_:=Aside0.mk (IsS110.ne_blk hi (blk_below (g:=gb336) (o:=.cells #[.string (⟨#[]⟩ : ByteArray),.int .i64 0,.slice none 0 0,.slice none 0 0] 27 (0,0)) (Up.Kup BK336) hb2) (by decide));have n4_:=Aside0.mk (Ne.symm (IsS110.ne_blk hi (blk_below (g:=gb336) (o:=.cells #[.string (⟨#[]⟩ : ByteArray),.int .i64 0,.slice none 0 0,.slice none 0 0] 27 (0,0)) (Up.Kup BK336) hb2) (by decide)));clear BK336 HB;have BK336:=n0_;have HB:=n1_;have HI339:=n2_;have NB339_336:=n3_;have NB336_339:=n4_;clear n0_ n1_ n2_ n3_ n4_;(try clear hb);(try clear hb2);(try clear hk);(try clear hi)) | ((with_reducible refine gate_callee (f:=39) rfl ?_);refine Up.gl (some 12) Try.func39 #[.pointer (some ⟨g339,0,none⟩)] ?_;(with_reducible refine (spec_l91Kinds.calls k g339 t337 t338 t340 t343 w _ ?side1 ?side2 A3.out).mono ?_);(case side1 => repeat (first | (with_reducible first | exact HI339.out | apply IsS110.alloc | apply IsS110.drewN | apply IsS110.drew | apply IsS110.set_1 | refine IsS110.far ?_ NB339_336.out _) | exact HI339.out));(case side2 => repeat (first | (with_reducible first | exact HB.out | apply below_alloc | apply pw_below_drewN | apply below_drew1 | refine below_set ?_ (IsS110.ge HI339.out) | refine below_set ?_ GE336.out) | exact HB.out));rintro e w10 ⟨v341,rfl,ho0,hi,hb,hk⟩;refine ⟨_,rfl,?_⟩;have n0_:=Aside0.mk (KeepBut.blk hk (g':=gb336) (o:=.cells #[.string (⟨#[]⟩ : ByteArray),.int .i64 0,.slice none 0 0,.slice none 0 0] 27 (0,0)) (Up.Kup BK336) NB336_339.out (by simp));have n1_:=Aside0.mk (Kd.N_lower (Kd.N_mono (ok':=fun k_ => (w.heap.size ≤ k_) ∧ k_ ≠ gb336 ∧ k_ ≠ g339) ho0 (fun k_ hk_ => ⟨(Nat.le_trans (below_size (by repeat (first | (with_reducible first | exact HB.out | apply below_alloc | apply pw_below_drewN | apply below_drew1 | refine below_set ?_ (IsS110.ge HI339.out) | refine below_set ?_ GE336.out) | exact HB.out))) hk_),(Kd.freshB (g:=gb336) (o:=.cells #[.string (⟨#[]⟩ : ByteArray),.int .i64 0,.slice none 0 0,.slice none 0 0] 27 (0,0)) (Up.Kup BK336) k_ hk_),(IsS110.fresh (by repeat (first | (with_reducible first | exact HI339.out | apply IsS110.alloc | apply IsS110.drewN | apply IsS110.drew | apply IsS110.set_1 | refine IsS110.far ?_ NB339_336.out _) | exact HI339.out)) k_ hk_)⟩)) (below_size (by repeat (first | (with_reducible first | exact HB.out | apply below_alloc | apply pw_below_drewN | apply below_drew1 | refine below_set ?_ (IsS110.ge HI339.out) | refine below_set ?_ GE336.out) | exact HB.out))));have n2_:=Aside0.mk (hb);have n3_:=Aside0.mk (hi);clear BK336 HB HI339;have BK336:=n0_;have HO342:=n1_;have HB:=n2_;have HI339:=n3_;clear n0_ n1_ n2_ n3_;(try clear hb);(try clear hb2);(try clear hk);(try clear hi);(try clear ho0);obtain ⟨Ao11,co11,eo11⟩:=Kd.N_slice HO342.out;subst eo11) | ((with_reducible refine gate_callee (f:=42) rfl ?_);refine Up.gl (some 18) Try.func42 #[.pointer (some ⟨g339,0,none⟩),.slice Ao11 t340.length co11,.bool false] ?_;(with_reducible refine (spec_l91Type.calls k g339 t337 t343 _ _ t340 false t344 t345 w _ ?side1 ?side2 ?side3 ?side4 A4.out).mono ?_);(case side1 => repeat (first | (with_reducible first | exact HI339.out | apply IsS110.alloc | apply IsS110.drewN | apply IsS110.drew | apply IsS110.set_1 | refine IsS110.far ?_ NB339_336.out _) | exact HI339.out));(case side2 => repeat (first | (with_reducible first | exact HB.out | apply below_alloc | apply pw_below_drewN | apply below_drew1 | refine below_set ?_ (IsS110.ge HI339.out) | refine below_set ?_ GE336.out) | exact HB.out));(case side3 => exact Kd.C_foot_ownV (base:=0) (Kd.N_V (Kd.N_mono (ok:=fun k_ => (((w.heap.size ≤ k_)) ∧ (k_ ≠ gb336 ∧ k_ ≠ g339))) (Up.Nup HO342) (fun k_ hk_ => (⟨hk_,hk_.2.2⟩ : _ ∧ k_ ≠ g339)))) (fun _ h_ => h_.2));(case side4 => exact (Kd.N_reads' HO342.out).2.1);rintro e w12 ⟨rfl,hi,hb,hk⟩;refine ⟨_,rfl,?_⟩;have n0_:=Aside0.mk (KeepBut.blk hk (g':=gb336) (o:=.cells #[.string (⟨#[]⟩ : ByteArray),.int .i64 0,.slice none 0 0,.slice none 0 0] 27 (0,0)) (Up.Kup BK336) NB336_339.out (by simp));have n1_:=Aside0.mk (Kd.N_mono (Kd.N_keep (Kd.N_mono (ok:=fun k_ => (((w.heap.size ≤ k_)) ∧ (k_ ≠ gb336 ∧ k_ ≠ g339))) (Up.Nup HO342) (fun k_ hk_ => (⟨hk_,hk_.2.2⟩ : _ ∧ k_ ≠ g339))) hk (fun _ h => h.2)) (fun _ h => h.1));have n2_:=Aside0.mk (hb);have n3_:=Aside0.mk (hi);clear BK336 HO342 HB HI339;have BK336:=n0_;have HO342:=n1_;have HB:=n2_;have HI339:=n3_;clear n0_ n1_ n2_ n3_;(try clear hb);(try clear hb2);(try clear hk);(try clear hi)) | ((with_reducible refine gate_callee (f:=41) rfl ?_);refine Up.gl (some 19) Try.func41 #[.pointer (some ⟨g339,0,none⟩),.slice Ao11 t340.length co11,.string t344] ?_;(with_reducible refine (spec_l91Value.calls k g339 t337 t345 _ _ t340 t344 t346 t347 t348 t351 t354 w _ ?side1 ?side2 ?side3 ?side4 A5.out).mono ?_);(case side1 => repeat (first | (with_reducible first | exact HI339.out | apply IsS110.alloc | apply IsS110.drewN | apply IsS110.drew | apply IsS110.set_1 | refine IsS110.far ?_ NB339_336.out _) | exact HI339.out));(case side2 => repeat (first | (with_reducible first | exact HB.out | apply below_alloc | apply pw_below_drewN | apply below_drew1 | refine below_set ?_ (IsS110.ge HI339.out) | refine below_set ?_ GE336.out) | exact HB.out));(case side3 => exact Kd.C_foot_ownV (base:=0) (Kd.N_V (Kd.N_mono (ok:=fun k_ => (((w.heap.size ≤ k_)) ∧ (k_ ≠ gb336 ∧ k_ ≠ g339))) (Up.Nup HO342) (fun k_ hk_ => (⟨hk_,hk_.2.2⟩ : _ ∧ k_ ≠ g339)))) (fun _ h_ => h_.2));(case side4 => exact (Kd.N_reads' HO342.out).2.1);rintro e w13 ⟨v349,v352,rfl,ho0,ho1,hi,hb,hk⟩;refine ⟨_,rfl,?_⟩;have n0_:=Aside0.mk (KeepBut.blk hk (g':=gb336) (o:=.cells #[.string (⟨#[]⟩ : ByteArray),.int .i64 0,.slice none 0 0,.slice none 0 0] 27 (0,0)) (Up.Kup BK336) NB336_339.out (by simp));have n1_:=Aside0.mk (Kd.N_mono (Kd.N_told (Kd.N_told (Kd.N_oldK (Kd.N_mono (ok:=fun k_ => (((w.heap.size ≤ k_)) ∧ (k_ ≠ gb336 ∧ k_ ≠ g339))) (Up.Nup HO342) (fun k_ hk_ => (⟨hk_,hk_.2.2⟩ : _ ∧ k_ ≠ g339))) hk) (by first | exact Kd.N_base ho0 | exact Kd.R_base ho0)) (Kd.R_base ho1)) (fun _ h_ => h_.1));have n2_:=Aside0.mk (Kd.N_lower (Kd.N_mono (ok':=fun k_ => (w.heap.size ≤ k_) ∧ some k_ ≠ (v352 : Value).ownBlock ∧ some k_ ≠ (.slice Ao11 t340.length co11 : Value).ownBlock ∧ k_ ≠ gb336 ∧ k_ ≠ g339) (Kd.R_N (Kd.R_bound ho0)) (fun k_ hk_ => ⟨(Nat.le_trans (below_size (by repeat (first | (with_reducible first | exact HB.out | apply below_alloc | apply pw_below_drewN | apply below_drew1 | refine below_set ?_ (IsS110.ge HI339.out) | refine below_set ?_ GE336.out) | exact HB.out))) hk_.2.1),hk_.1,(Kd.fresh' (Kd.N_lt (Up.Nup HO342)) k_ hk_.2.1),(Kd.freshB (g:=gb336) (o:=.cells #[.string (⟨#[]⟩ : ByteArray),.int .i64 0,.slice none 0 0,.slice none 0 0] 27 (0,0)) (Up.Kup BK336) k_ hk_.2.1),(IsS110.fresh (by repeat (first | (with_reducible first | exact HI339.out | apply IsS110.alloc | apply IsS110.drewN | apply IsS110.drew | apply IsS110.set_1 | refine IsS110.far ?_ NB339_336.out _) | exact HI339.out)) k_ hk_.2.1)⟩)) (below_size (by repeat (first | (with_reducible first | exact HB.out | apply below_alloc | apply pw_below_drewN | apply below_drew1 | refine below_set ?_ (IsS110.ge HI339.out) | refine below_set ?_ GE336.out) | exact HB.out))));have n3_:=Aside0.mk (Kd.R_lower (Kd.R_newM (M:=fun k_ => (w.heap.size ≤ k_)) ho1 (below_size (by repeat (first | (with_reducible first | exact HB.out | apply below_alloc | apply pw_below_drewN | apply below_drew1 | refine below_set ?_ (IsS110.ge HI339.out) | refine below_set ?_ GE336.out) | exact HB.out))) (fun k_ h_ => h_)) (below_size (by repeat (first | (with_reducible first | exact HB.out | apply below_alloc | apply pw_below_drewN | apply below_drew1 | refine below_set ?_ (IsS110.ge HI339.out) | refine below_set ?_ GE336.out) | exact HB.out))));have n4_:=Aside0.mk (hb);have n5_:=Aside0.mk (hi);clear BK336 HO342 HB HI339;have BK336:=n0_;have HO342:=n1_;have HO350:=n2_;have HO353:=n3_;have HB:=n4_;have HI339:=n5_;clear n0_ n1_ n2_ n3_ n4_ n5_;(try clear hb);(try clear hb2);(try clear hk);(try clear hi);(try clear ho0);(try clear ho1);obtain ⟨Ao14,co14,eo14⟩:=Kd.N_slice HO350.out;subst eo14;obtain ⟨Ao15,co15,eo15⟩:=Kd.R_slice HO353.out;subst eo15) | ((with_reducible refine gate_callee (f:=40) rfl ?_);refine Up.gl (some 20) Try.func40 #[.pointer (some ⟨g339,0,none⟩),.agg #[.string t346,.int .i64 t347,.slice Ao14 t348.length co14,.slice Ao15 t351.length co15]] ?_;(with_reducible refine (spec_l91Bad.calls k g339 t337 t354 t346 t347 (fun k_ => ((w.heap.size ≤ k_) ∧ (some k_ ≠ (.slice Ao15 t351.length co15 : Value).ownBlock ∧ (some k_ ≠ (.slice Ao11 t340.length co11 : Value).ownBlock ∧ (k_ ≠ gb336 ∧ k_ ≠ g339))))) _ _ t348 (fun k_ => some k_ = (.slice Ao15 t351.length co15 : Value).ownBlock) _ _ t351 t355 t356 t357 t360 t363 w _ ?side1 ?side2 ?side3 ?side4 A6.out).mono ?_);(case side1 => repeat (first | (with_reducible first | exact HI339.out | apply IsS110.alloc | apply IsS110.drewN | apply IsS110.drew | apply IsS110.set_1 | refine IsS110.far ?_ NB339_336.out _) | exact HI339.out));(case side2 => repeat (first | (with_reducible first | exact HB.out | apply below_alloc | apply pw_below_drewN | apply below_drew1 | refine below_set ?_ (IsS110.ge HI339.out) | refine below_set ?_ GE336.out) | exact HB.out));(case side3 => exact Kd.V_mono (Kd.N_V (HO350.out)) (fun k_ hk_ => ⟨hk_,hk_.2.2.2.2⟩));(case side4 => exact Kd.V_mono (Kd.R_V (Kd.R_tight rfl (IsS110.apart HI339.out (Kd.R_types (Kd.R_apart' (Kd.R_apart' (HO353.out) (Kd.N_typed HO342.out) (by decide)) (Kd.N_typed HO350.out) (by decide)) BK336.out (by decide)) (by decide)))) (fun k_ hk_ => ⟨hk_,((IsS110.apart HI339.out (Kd.R_types (Kd.R_apart' (Kd.R_apart' (HO353.out) (Kd.N_typed HO342.out) (by decide)) (Kd.N_typed HO350.out) (by decide)) BK336.out (by decide)) (by decide)).1 k_ hk_.symm).2⟩));rintro e w16 ⟨v358,v361,rfl,ho0,ho1,hi,hb,hk⟩;refine ⟨_,rfl,?_⟩;have n0_:=Aside0.mk (KeepBut.blk hk (g':=gb336) (o:=.cells #[.string (⟨#[]⟩ : ByteArray),.int .i64 0,.slice none 0 0,.slice none 0 0] 27 (0,0)) (Up.Kup BK336) NB336_339.out (by simp));have n1_:=Aside0.mk (Kd.N_mono (Kd.N_keep (Kd.N_mono (ok:=fun k_ => (((((w.heap.size ≤ k_)) ∧ (k_ ≠ gb336 ∧ k_ ≠ g339)) ∧ some k_ ≠ (.slice Ao14 t348.length co14 : Value).ownBlock) ∧ some k_ ≠ (.slice Ao15 t351.length co15 : Value).ownBlock)) (Up.Nup HO342) (fun k_ hk_ => (⟨hk_,hk_.1.1.2.2⟩ : _ ∧ k_ ≠ g339))) hk (fun _ h => h.2)) (fun _ h => h.1));have n2_:=Aside0.mk (Kd.N_mono (Kd.N_keep (Kd.N_mono (ok:=fun k_ => (((w.heap.size ≤ k_)) ∧ (some k_ ≠ (.slice Ao15 t351.length co15 : Value).ownBlock ∧ (some k_ ≠ (.slice Ao11 t340.length co11 : Value).ownBlock ∧ (k_ ≠ gb336 ∧ k_ ≠ g339))))) (Up.Nup HO350) (fun k_ hk_ => (⟨hk_,hk_.2.2.2.2⟩ : _ ∧ k_ ≠ g339))) hk (fun _ h => h.2)) (fun _ h => h.1));have n3_:=Aside0.mk (Kd.R_mono (Kd.R_keep (IsS110.apart (show IsS110 w _ g339 t337 t354 from by repeat (first | (with_reducible first | exact HI339.out | apply IsS110.alloc | apply IsS110.drewN | apply IsS110.drew | apply IsS110.set_1 | refine IsS110.far ?_ NB339_336.out _) | exact HI339.out)) (Up.Rup HO353) (by decide)) hk (fun _ h => h.2)) (fun _ h => h.1));have n4_:=Aside0.mk (Kd.V_lower (Kd.V_mono (ok':=fun k_ => (w.heap.size ≤ k_) ∧ some k_ ≠ (.slice Ao11 t340.length co11 : Value).ownBlock ∧ k_ ≠ gb336 ∧ k_ ≠ g339) ho0 (fun k_ hk_ => ⟨Or.elim hk_ (fun hs_ => Or.elim hs_ (fun hs_ => hs_.1) (fun hs_ => ((IsS110.apart HI339.out (Kd.R_types (Kd.R_apart' (Kd.R_apart' (HO353.out) (Kd.N_typed HO342.out) (by decide)) (Kd.N_typed HO350.out) (by decide)) BK336.out (by decide)) (by decide)).1 k_ hs_.symm).1.1.1.1.1)) (fun hn_ => (Nat.le_trans (below_size (by repeat (first | (with_reducible first | exact HB.out | apply below_alloc | apply pw_below_drewN | apply below_drew1 | refine below_set ?_ (IsS110.ge HI339.out) | refine below_set ?_ GE336.out) | exact HB.out))) hn_)),Or.elim hk_ (fun hs_ => Or.elim hs_ (fun hs_ => hs_.2.2.1) (fun hs_ => ((IsS110.apart HI339.out (Kd.R_types (Kd.R_apart' (Kd.R_apart' (HO353.out) (Kd.N_typed HO342.out) (by decide)) (Kd.N_typed HO350.out) (by decide)) BK336.out (by decide)) (by decide)).1 k_ hs_.symm).1.1.1.2)) (fun hn_ => (Kd.fresh' (Kd.N_lt (Up.Nup HO342)) k_ hn_)),Or.elim hk_ (fun hs_ => Or.elim hs_ (fun hs_ => hs_.2.2.2.1) (fun hs_ => ((IsS110.apart HI339.out (Kd.R_types (Kd.R_apart' (Kd.R_apart' (HO353.out) (Kd.N_typed HO342.out) (by decide)) (Kd.N_typed HO350.out) (by decide)) BK336.out (by decide)) (by decide)).1 k_ hs_.symm).1.2)) (fun hn_ => (Kd.freshB (g:=gb336) (o:=.cells #[.string (⟨#[]⟩ : ByteArray),.int .i64 0,.slice none 0 0,.slice none 0 0] 27 (0,0)) (Up.Kup BK336) k_ hn_)),Or.elim hk_ (fun hs_ => Or.elim hs_ (fun hs_ => hs_.2.2.2.2) (fun hs_ => ((IsS110.apart HI339.out (Kd.R_types (Kd.R_apart' (Kd.R_apart' (HO353.out) (Kd.N_typed HO342.out) (by decide)) (Kd.N_typed HO350.out) (by decide)) BK336.out (by decide)) (by decide)).1 k_ hs_.symm).2)) (fun hn_ => (IsS110.fresh (by repeat (first | (with_reducible first | exact HI339.out | apply IsS110.alloc | apply IsS110.drewN | apply IsS110.drew | apply IsS110.set_1 | refine IsS110.far ?_ NB339_336.out _) | exact HI339.out)) k_ hn_))⟩)) (below_size (by repeat (first | (with_reducible first | exact HB.out | apply below_alloc | apply pw_below_drewN | apply below_drew1 | refine below_set ?_ (IsS110.ge HI339.out) | refine below_set ?_ GE336.out) | exact HB.out))));have n5_:=Aside0.mk (Kd.V_lower (Kd.V_mono (ok':=fun k_ => (w.heap.size ≤ k_) ∧ some k_ ≠ (.slice Ao11 t340.length co11 : Value).ownBlock ∧ k_ ≠ gb336 ∧ k_ ≠ g339) ho1 (fun k_ hk_ => ⟨Or.elim hk_ (fun hs_ => Or.elim hs_ (fun hs_ => hs_.1) (fun hs_ => ((IsS110.apart HI339.out (Kd.R_types (Kd.R_apart' (Kd.R_apart' (HO353.out) (Kd.N_typed HO342.out) (by decide)) (Kd.N_typed HO350.out) (by decide)) BK336.out (by decide)) (by decide)).1 k_ hs_.symm).1.1.1.1.1)) (fun hn_ => (Nat.le_trans (below_size (by repeat (first | (with_reducible first | exact HB.out | apply below_alloc | apply pw_below_drewN | apply below_drew1 | refine below_set ?_ (IsS110.ge HI339.out) | refine below_set ?_ GE336.out) | exact HB.out))) hn_)),Or.elim hk_ (fun hs_ => Or.elim hs_ (fun hs_ => hs_.2.2.1) (fun hs_ => ((IsS110.apart HI339.out (Kd.R_types (Kd.R_apart' (Kd.R_apart' (HO353.out) (Kd.N_typed HO342.out) (by decide)) (Kd.N_typed HO350.out) (by decide)) BK336.out (by decide)) (by decide)).1 k_ hs_.symm).1.1.1.2)) (fun hn_ => (Kd.fresh' (Kd.N_lt (Up.Nup HO342)) k_ hn_)),Or.elim hk_ (fun hs_ => Or.elim hs_ (fun hs_ => hs_.2.2.2.1) (fun hs_ => ((IsS110.apart HI339.out (Kd.R_types (Kd.R_apart' (Kd.R_apart' (HO353.out) (Kd.N_typed HO342.out) (by decide)) (Kd.N_typed HO350.out) (by decide)) BK336.out (by decide)) (by decide)).1 k_ hs_.symm).1.2)) (fun hn_ => (Kd.freshB (g:=gb336) (o:=.cells #[.string (⟨#[]⟩ : ByteArray),.int .i64 0,.slice none 0 0,.slice none 0 0] 27 (0,0)) (Up.Kup BK336) k_ hn_)),Or.elim hk_ (fun hs_ => Or.elim hs_ (fun hs_ => hs_.2.2.2.2) (fun hs_ => ((IsS110.apart HI339.out (Kd.R_types (Kd.R_apart' (Kd.R_apart' (HO353.out) (Kd.N_typed HO342.out) (by decide)) (Kd.N_typed HO350.out) (by decide)) BK336.out (by decide)) (by decide)).1 k_ hs_.symm).2)) (fun hn_ => (IsS110.fresh (by repeat (first | (with_reducible first | exact HI339.out | apply IsS110.alloc | apply IsS110.drewN | apply IsS110.drew | apply IsS110.set_1 | refine IsS110.far ?_ NB339_336.out _) | exact HI339.out)) k_ hn_))⟩)) (below_size (by repeat (first | (with_reducible first | exact HB.out | apply below_alloc | apply pw_below_drewN | apply below_drew1 | refine below_set ?_ (IsS110.ge HI339.out) | refine below_set ?_ GE336.out) | exact HB.out))));have n6_:=Aside0.mk (hb);have n7_:=Aside0.mk (hi);clear BK336 HO342 HO350 HO353 HB HI339;have BK336:=n0_;have HO342:=n1_;have HO350:=n2_;have HO353:=n3_;have HO359:=n4_;have HO362:=n5_;have HB:=n6_;have HI339:=n7_;clear n0_ n1_ n2_ n3_ n4_ n5_ n6_ n7_;(try clear hb);(try clear hb2);(try clear hk);(try clear hi);(try clear ho0);(try clear ho1)) | ((with_reducible refine gate_dst (N:=7) rfl ?_);refine Up.bx 7 27 #[.string (⟨#[]⟩ : ByteArray),.int .i64 0,.slice none 0 0,.slice none 0 0] ?_;intro gb364 hg w17 hbox hb;have n0_:=Aside0.mk (Kd.N_below (Kd.N_elderB (Up.Nup HO342) gb364 (Nat.le_of_eq hg.symm)) hb);have n1_:=Aside0.mk (Kd.N_below (Kd.N_elderB (Up.Nup HO350) gb364 (Nat.le_of_eq hg.symm)) hb);have n2_:=Up.RB HO353 hb;have n3_:=Aside0.mk (Kd.V_below (Kd.V_elderB (Up.Vup HO359) gb364 (Nat.le_of_eq hg.symm)) hb);have n4_:=Aside0.mk (Kd.V_below (Kd.V_elderB (Up.Vup HO362) gb364 (Nat.le_of_eq hg.symm)) hb);have n5_:=Up.KB BK336 hb;have n6_:=Aside0.mk (IsS110.below (by repeat (first | (with_reducible first | exact HI339.out | apply IsS110.alloc | apply IsS110.drewN | apply IsS110.drew | apply IsS110.set_1 | refine IsS110.far ?_ NB339_336.out _) | exact HI339.out)) hb);have n7_:=Aside0.mk (below_step (by repeat (first | (with_reducible first | exact HB.out | apply below_alloc | apply pw_below_drewN | apply below_drew1 | refine below_set ?_ (IsS110.ge HI339.out) | refine below_set ?_ GE336.out) | exact HB.out)) hb);have n8_:=Aside0.mk (hbox);have n9_:=Aside0.mk ((by rw [hg];exact (below_size (by repeat (first | (with_reducible first | exact HB.out | apply below_alloc | apply pw_below_drewN | apply below_drew1 | refine below_set ?_ (IsS110.ge HI339.out) | refine below_set ?_ GE336.out) | exact HB.out))) : w.heap.size ≤ gb364));have n10_:=Aside0.mk ((by rw [hg];exact (below_size (by repeat (first | (with_reducible first | exact HB.out | apply below_alloc | apply pw_below_drewN | apply below_drew1 | refine below_set ?_ (IsS110.ge HI339.out) | refine below_set ?_ GE336.out) | exact HB.out))) : w.heap.size ≤ gb364));have n11_:=Up.nl hg BK336;have n12_:=Up.ng hg BK336;have n13_:=Aside0.mk ((by rw [hg];exact Nat.ne_of_lt (IsS110.lt (show IsS110 w _ g339 t337 t363 from by repeat (first | (with_reducible first | exact HI339.out | apply IsS110.alloc | apply IsS110.drewN | apply IsS110.drew | apply IsS110.set_1 | refine IsS110.far ?_ NB339_336.out _) | exact HI339.out))) : g339 ≠ gb364));have n14_:=Aside0.mk ((by rw [hg];exact Nat.ne_of_gt (IsS110.lt (show IsS110 w _ g339 t337 t363 from by repeat (first | (with_reducible first | exact HI339.out | apply IsS110.alloc | apply IsS110.drewN | apply IsS110.drew | apply IsS110.set_1 | refine IsS110.far ?_ NB339_336.out _) | exact HI339.out))) : gb364 ≠ g339));clear HO342 HO350 HO353 HO359 HO362 BK336 HI339 HB;have HO342:=n0_;have HO350:=n1_;have HO353:=n2_;have HO359:=n3_;have HO362:=n4_;have BK336:=n5_;have HI339:=n6_;have HB:=n7_;have BK364:=n8_;have GW364:=n9_;have GE364:=n10_;have NB336_364:=n11_;have NB364_336:=n12_;have NB339_364:=n13_;have NB364_339:=n14_;clear n0_ n1_ n2_ n3_ n4_ n5_ n6_ n7_ n8_ n9_ n10_ n11_ n12_ n13_ n14_ hb hbox hg;have hnb18:=NB364_336.out;have hnc18:=NB336_364.out;have hnb19:=NB364_339.out;have hnc19:=NB339_364.out;have hcz20_0:=Up.c0 BK364;have hcz20_1:=Up.c1 BK364;have hcz20_2:=Up.c2 BK364;have hcz20_3:=Up.c3 BK364;have hfz20_0:=blk_frozen BK364.out 0;have hfz20_1:=blk_frozen BK364.out 1;have hfz20_2:=blk_frozen BK364.out 2;have hfz20_3:=blk_frozen BK364.out 3;obtain ⟨Ao21,co21,eo21⟩:=Kd.V_slice HO359.out;subst eo21;obtain ⟨Ao22,co22,eo22⟩:=Kd.V_slice HO362.out;subst eo22) | ((with_reducible refine gate_callee (f:=47) rfl ?_);refine Up.gl (some 23) Try.func47 #[.pointer (some ⟨g339,0,none⟩),.slice Ao11 t340.length co11] ?_;(with_reducible refine (spec_l92Kind.calls k g339 t337 t363 _ _ t340 t365 t366 w _ ?side1 ?side2 ?side3 ?side4 A7.out).mono ?_);(case side1 => repeat (first | (with_reducible first | exact HI339.out | apply IsS110.alloc | apply IsS110.drewN | apply IsS110.drew | apply IsS110.set_1 | refine IsS110.far ?_ NB339_336.out _ | refine IsS110.far ?_ NB339_364.out _) | exact HI339.out));(case side2 => repeat (first | (with_reducible first | exact HB.out | apply below_alloc | apply pw_below_drewN | apply below_drew1 | refine below_set ?_ (IsS110.ge HI339.out) | refine below_set ?_ GE336.out | refine below_set ?_ GE364.out) | exact HB.out));(case side3 => exact Kd.C_foot_ownV (base:=0) (Kd.N_V (Kd.N_mono (ok:=fun k_ => ((((((w.heap.size ≤ k_)) ∧ (k_ ≠ gb336 ∧ k_ ≠ g339)) ∧ some k_ ≠ (.slice Ao14 t348.length co14 : Value).ownBlock) ∧ some k_ ≠ (.slice Ao15 t351.length co15 : Value).ownBlock) ∧ k_ ≠ gb364)) (by (with_reducible repeat (first | apply Kd.N_alloc | apply Kd.N_drewN | apply Kd.N_drew));exact (Kd.N_mono (Kd.N_far (p:=⟨gb364,3,none⟩) (Kd.N_far (p:=⟨gb364,2,none⟩) (Kd.N_far (p:=⟨gb364,1,none⟩) (Kd.N_far (p:=⟨gb364,0,none⟩) (Kd.N_mono HO342.out (fun k_ hk => (⟨hk,hk.2⟩ : _ ∧ k_ ≠ gb364))) (fun _ hk => hk.2) (.string t355)) (fun _ hk => hk.2) (.int .i64 t356)) (fun _ hk => hk.2) (.slice Ao21 t357.length co21)) (fun _ hk => hk.2) (.slice Ao22 t360.length co22)) (fun _ h_ => h_.1))) (fun k_ hk_ => (⟨hk_,hk_.1.1.1.2.2⟩ : _ ∧ k_ ≠ g339)))) (fun _ h_ => h_.2));(case side4 => exact (Kd.N_reads' HO342.out).2.1);rintro e w23 ⟨rfl,hi,hb,hk⟩;refine ⟨_,rfl,?_⟩;have n0_:=Aside0.mk (KeepBut.blk hk (g':=gb336) (o:=.cells #[.string (⟨#[]⟩ : ByteArray),.int .i64 0,.slice none 0 0,.slice none 0 0] 27 (0,0)) (Up.Kx BK336) NB336_339.out (by simp));have n1_:=Aside0.mk (Kd.N_mono (Kd.N_keep (Kd.N_mono (ok:=fun k_ => ((((((w.heap.size ≤ k_)) ∧ (k_ ≠ gb336 ∧ k_ ≠ g339)) ∧ some k_ ≠ (.slice Ao14 t348.length co14 : Value).ownBlock) ∧ some k_ ≠ (.slice Ao15 t351.length co15 : Value).ownBlock) ∧ k_ ≠ gb364)) (by (with_reducible repeat (first | apply Kd.N_alloc | apply Kd.N_drewN | apply Kd.N_drew));exact (Kd.N_mono (Kd.N_far (p:=⟨gb364,3,none⟩) (Kd.N_far (p:=⟨gb364,2,none⟩) (Kd.N_far (p:=⟨gb364,1,none⟩) (Kd.N_far (p:=⟨gb364,0,none⟩) (Kd.N_mono HO342.out (fun k_ hk => (⟨hk,hk.2⟩ : _ ∧ k_ ≠ gb364))) (fun _ hk => hk.2) (.string t355)) (fun _ hk => hk.2) (.int .i64 t356)) (fun _ hk => hk.2) (.slice Ao21 t357.length co21)) (fun _ hk => hk.2) (.slice Ao22 t360.length co22)) (fun _ h_ => h_.1))) (fun k_ hk_ => (⟨hk_,hk_.1.1.1.2.2⟩ : _ ∧ k_ ≠ g339))) hk (fun _ h => h.2)) (fun _ h => h.1));have n2_:=Aside0.mk (Kd.N_mono (Kd.N_keep (Kd.N_mono (ok:=fun k_ => ((((w.heap.size ≤ k_)) ∧ (some k_ ≠ (.slice Ao15 t351.length co15 : Value).ownBlock ∧ (some k_ ≠ (.slice Ao11 t340.length co11 : Value).ownBlock ∧ (k_ ≠ gb336 ∧ k_ ≠ g339)))) ∧ k_ ≠ gb364)) (by (with_reducible repeat (first | apply Kd.N_alloc | apply Kd.N_drewN | apply Kd.N_drew));exact (Kd.N_mono (Kd.N_far (p:=⟨gb364,3,none⟩) (Kd.N_far (p:=⟨gb364,2,none⟩) (Kd.N_far (p:=⟨gb364,1,none⟩) (Kd.N_far (p:=⟨gb364,0,none⟩) (Kd.N_mono HO350.out (fun k_ hk => (⟨hk,hk.2⟩ : _ ∧ k_ ≠ gb364))) (fun _ hk => hk.2) (.string t355)) (fun _ hk => hk.2) (.int .i64 t356)) (fun _ hk => hk.2) (.slice Ao21 t357.length co21)) (fun _ hk => hk.2) (.slice Ao22 t360.length co22)) (fun _ h_ => h_.1))) (fun k_ hk_ => (⟨hk_,hk_.1.2.2.2.2⟩ : _ ∧ k_ ≠ g339))) hk (fun _ h => h.2)) (fun _ h => h.1));have n3_:=Aside0.mk (Kd.R_mono (Kd.R_keep (IsS110.apart (show IsS110 w _ g339 t337 t363 from by repeat (first | (with_reducible first | exact HI339.out | apply IsS110.alloc | apply IsS110.drewN | apply IsS110.drew | apply IsS110.set_1 | refine IsS110.far ?_ NB339_336.out _ | refine IsS110.far ?_ NB339_364.out _) | exact HI339.out)) (by (with_reducible repeat (first | apply Kd.R_alloc | apply Kd.R_drewN | apply Kd.R_drew));exact (Kd.R_mono (Kd.R_far (p:=⟨gb364,3,none⟩) (Kd.R_far (p:=⟨gb364,2,none⟩) (Kd.R_far (p:=⟨gb364,1,none⟩) (Kd.R_far (p:=⟨gb364,0,none⟩) (Kd.R_types HO353.out BK364.out (by decide)) (fun _ hk => hk.2) (.string t355)) (fun _ hk => hk.2) (.int .i64 t356)) (fun _ hk => hk.2) (.slice Ao21 t357.length co21)) (fun _ hk => hk.2) (.slice Ao22 t360.length co22)) (fun _ h_ => h_.1))) (by decide)) hk (fun _ h => h.2)) (fun _ h => h.1));have n4_:=Aside0.mk (Kd.V_mono (Kd.V_keep (Kd.V_mono (ok:=fun k_ => ((((w.heap.size ≤ k_)) ∧ (some k_ ≠ (.slice Ao11 t340.length co11 : Value).ownBlock ∧ (k_ ≠ gb336 ∧ k_ ≠ g339))) ∧ k_ ≠ gb364)) (by (with_reducible repeat (first | apply Kd.V_alloc | apply Kd.V_drewN | apply Kd.V_drew));exact (Kd.V_mono (Kd.V_far (p:=⟨gb364,3,none⟩) (Kd.V_far (p:=⟨gb364,2,none⟩) (Kd.V_far (p:=⟨gb364,1,none⟩) (Kd.V_far (p:=⟨gb364,0,none⟩) (Kd.V_mono HO359.out (fun k_ hk => (⟨hk,hk.2⟩ : _ ∧ k_ ≠ gb364))) (fun _ hk => hk.2) (.string t355)) (fun _ hk => hk.2) (.int .i64 t356)) (fun _ hk => hk.2) (.slice Ao21 t357.length co21)) (fun _ hk => hk.2) (.slice Ao22 t360.length co22)) (fun _ h_ => h_.1))) (fun k_ hk_ => (⟨hk_,hk_.1.2.2.2⟩ : _ ∧ k_ ≠ g339))) hk (fun _ h => h.2)) (fun _ h => h.1));have n5_:=Aside0.mk (Kd.V_mono (Kd.V_keep (Kd.V_mono (ok:=fun k_ => ((((w.heap.size ≤ k_)) ∧ (some k_ ≠ (.slice Ao11 t340.length co11 : Value).ownBlock ∧ (k_ ≠ gb336 ∧ k_ ≠ g339))) ∧ k_ ≠ gb364)) (by (with_reducible repeat (first | apply Kd.V_alloc | apply Kd.V_drewN | apply Kd.V_drew));exact (Kd.V_mono (Kd.V_far (p:=⟨gb364,3,none⟩) (Kd.V_far (p:=⟨gb364,2,none⟩) (Kd.V_far (p:=⟨gb364,1,none⟩) (Kd.V_far (p:=⟨gb364,0,none⟩) (Kd.V_mono HO362.out (fun k_ hk => (⟨hk,hk.2⟩ : _ ∧ k_ ≠ gb364))) (fun _ hk => hk.2) (.string t355)) (fun _ hk => hk.2) (.int .i64 t356)) (fun _ hk => hk.2) (.slice Ao21 t357.length co21)) (fun _ hk => hk.2) (.slice Ao22 t360.length co22)) (fun _ h_ => h_.1))) (fun k_ hk_ => (⟨hk_,hk_.1.2.2.2⟩ : _ ∧ k_ ≠ g339))) hk (fun _ h => h.2)) (fun _ h => h.1));have n6_:=Aside0.mk (KeepBut.blk hk (g':=gb364) (o:=.cells #[.string t355,.int .i64 t356,.slice Ao21 t357.length co21,.slice Ao22 t360.length co22] 27 (0,0)) (Up.Kx BK364) NB364_339.out (by simp));have n7_:=Aside0.mk (hb);have n8_:=Aside0.mk (hi);clear BK336 HO342 HO350 HO353 HO359 HO362 BK364 HB HI339;have BK336:=n0_;have HO342:=n1_;have HO350:=n2_;have HO353:=n3_;have HO359:=n4_;have HO362:=n5_;have BK364:=n6_;have HB:=n7_;have HI339:=n8_;clear n0_ n1_ n2_ n3_ n4_ n5_ n6_ n7_ n8_;(try clear hb);(try clear hb2);(try clear hk);(try clear hi)))
 have n0_:=Aside0.mk (Kd.N_drew HO342.out)
 have n1_:=Aside0.mk (Kd.N_drew HO350.out)
 have n2_:=Aside0.mk (Kd.R_drew HO353.out)
 have n3_:=Aside0.mk (Kd.V_drew HO359.out)
 have n4_:=Aside0.mk (Kd.V_drew HO362.out)
 have n5_:=Aside0.mk (blk_drew BK336.out)
 have n6_:=Aside0.mk (blk_drew BK364.out)
 have n7_:=Aside0.mk (IsS110.drew HI339.out)
 have n8_:=Aside0.mk (below_drew1 HB.out)
 clear HO342
 clear HO350
 clear HO353
 clear HO359
 clear HO362
 clear BK336
 clear BK364
 clear HI339
 clear HB
 have HO342:=n0_
 have HO350:=n1_
 have HO353:=n2_
 have HO359:=n3_
 have HO362:=n4_
 have BK336:=n5_
 have BK364:=n6_
 have HI339:=n7_
 have HB:=n8_
 clear n0_ n1_ n2_ n3_ n4_ n5_ n6_ n7_ n8_
 refine start_ (n:=6) (S:=fun w' => w'.cell? ⟨gb364,0,none⟩ = some (.string t355) ∧ w'.cell? ⟨gb364,1,none⟩ = some (.int .i64 t356) ∧ w'.cell? ⟨gb364,2,none⟩ = some (.slice Ao21 t357.length co21) ∧ w'.cell? ⟨gb364,3,none⟩ = some (.slice Ao22 t360.length co22)) (ds:=[]) #[false,false,false,false,false,false] (by kernel_rfl) rfl rfl ⟨Up.c0 BK364,Up.c1 BK364,Up.c2 BK364,Up.c3 BK364⟩ (fun hHeld => ?_)
 generalize w23.drew = w24 at HO342 HO350 HO353 HO359 HO362 BK336 BK364 HI339 HB hHeld ⊢
 refine Up.pn 0 (some 24) ?_
 refine Up.pn 2 (some 26) ?_
 refine Up.pn 3 (some 2) ?_
 refine take_ (i:=1) (N:=some 25) (v:=?_) (a':=?_) #[true,true,true,true,false,false] rfl rfl (by kernel_rfl) (fun _ _ _ h => h) (Or.inl ⟨by rfl,?_⟩) hHeld ?_ ?_
 rotate_left
 ·rintro w' ⟨s0,s1,s2,s3⟩
  go_simp
  with_reducible rfl
 rotate_left
 ·simp only [Act.put,List.setIfInBounds_toArray,List.set_cons_zero,List.set_cons_succ,i64_w,i32_w]
  rfl
 refine one_ (i:=4) (N:=none) #[true,true,true,true,true,false] rfl rfl (by kernel_rfl) (by decide) (fun K hK => ?_)
 have hs25:=Up.c0 BK336
 have hfs25:=blk_frozen BK336.out 0
 have hns25_1:=NB364_336.out
 have hms25_1:=NB336_364.out
 have hs26:=Up.c1 BK336
 have hfs26:=blk_frozen BK336.out 1
 have hns26_1:=NB364_336.out
 have hms26_1:=NB336_364.out
 have hs27:=Up.c2 BK336
 have hfs27:=blk_frozen BK336.out 2
 have hns27_1:=NB364_336.out
 have hms27_1:=NB336_364.out
 have hs28:=Up.c3 BK336
 have hfs28:=blk_frozen BK336.out 3
 have hns28_1:=NB364_336.out
 have hms28_1:=NB336_364.out
 refine skip_ (w1:=?_) (by rfl) rfl ?_ ?_
 rotate_left
 ·go_simp
  rfl
 refine hK.out _ _ ⟨((cell_far (p:=⟨gb336,_,none⟩) NB364_336.out _).trans (((cell_far (p:=⟨gb336,_,none⟩) NB364_336.out _).trans (((cell_far (p:=⟨gb336,_,none⟩) NB364_336.out _).trans (((cell_far (p:=⟨gb336,_,none⟩) NB364_336.out _).trans (hHeld.1)))))))),((cell_far (p:=⟨gb336,_,none⟩) NB364_336.out _).trans (((cell_far (p:=⟨gb336,_,none⟩) NB364_336.out _).trans (((cell_far (p:=⟨gb336,_,none⟩) NB364_336.out _).trans (((cell_far (p:=⟨gb336,_,none⟩) NB364_336.out _).trans (hHeld.2.1)))))))),((cell_far (p:=⟨gb336,_,none⟩) NB364_336.out _).trans (((cell_far (p:=⟨gb336,_,none⟩) NB364_336.out _).trans (((cell_far (p:=⟨gb336,_,none⟩) NB364_336.out _).trans (((cell_far (p:=⟨gb336,_,none⟩) NB364_336.out _).trans (hHeld.2.2.1)))))))),((cell_far (p:=⟨gb336,_,none⟩) NB364_336.out _).trans (((cell_far (p:=⟨gb336,_,none⟩) NB364_336.out _).trans (((cell_far (p:=⟨gb336,_,none⟩) NB364_336.out _).trans (((cell_far (p:=⟨gb336,_,none⟩) NB364_336.out _).trans (hHeld.2.2.2))))))))⟩ (fun hHeld => ?_)
 clear hK K
 refine Up.pn 5 (some 4) ?_
 refine done_ (by kernel_rfl) ?_
 try go_wp2
 refine bodyPost_ret (results_list (rs:=[.tmp 2,.cell 3 27,.tmp 4]) rfl (by simp) (.tmp (.cell gb336 27 #[.string t355,.int .i64 t356,.slice Ao21 t357.length co21,.slice Ao22 t360.length co22] (0,0) _ rfl (Up.Kx BK336) Try.underlying27 rfl (by kernel_rfl) (.tmp .nil)))) rfl ?_
 exact ⟨_,_,_,by first | rfl | (simp [errW_none,errW_some] <;> rfl) | (simp [*,errW_none,errW_some] <;> rfl),by (with_reducible repeat (first | apply Kd.N_alloc | apply Kd.N_drewN | apply Kd.N_drew));exact Kd.N_mono (Kd.N_far (p:=⟨gb336,3,none⟩) (Kd.N_far (p:=⟨gb336,2,none⟩) (Kd.N_far (p:=⟨gb336,1,none⟩) (Kd.N_far (p:=⟨gb336,0,none⟩) (Kd.N_mono HO342.out (fun k_ hk => (⟨hk,hk.1.1.1.2.1⟩ : _ ∧ k_ ≠ gb336))) (fun _ hk => hk.2) (.string t355)) (fun _ hk => hk.2) (.int .i64 t356)) (fun _ hk => hk.2) (.slice Ao21 t357.length co21)) (fun _ hk => hk.2) (.slice Ao22 t360.length co22)) (fun _ hk => hk.1.1.1.1.1),by (with_reducible repeat (first | apply Kd.V_alloc | apply Kd.V_drewN | apply Kd.V_drew));exact Kd.V_mono (Kd.V_far (p:=⟨gb336,3,none⟩) (Kd.V_far (p:=⟨gb336,2,none⟩) (Kd.V_far (p:=⟨gb336,1,none⟩) (Kd.V_far (p:=⟨gb336,0,none⟩) (Kd.V_mono HO359.out (fun k_ hk => (⟨hk,hk.1.2.2.1⟩ : _ ∧ k_ ≠ gb336))) (fun _ hk => hk.2) (.string t355)) (fun _ hk => hk.2) (.int .i64 t356)) (fun _ hk => hk.2) (.slice Ao21 t357.length co21)) (fun _ hk => hk.2) (.slice Ao22 t360.length co22)) (fun _ hk => ⟨hk.1.1.1,hk.1.1.2.1⟩),by (with_reducible repeat (first | apply Kd.V_alloc | apply Kd.V_drewN | apply Kd.V_drew));exact Kd.V_mono (Kd.V_far (p:=⟨gb336,3,none⟩) (Kd.V_far (p:=⟨gb336,2,none⟩) (Kd.V_far (p:=⟨gb336,1,none⟩) (Kd.V_far (p:=⟨gb336,0,none⟩) (Kd.V_mono HO362.out (fun k_ hk => (⟨hk,hk.1.2.2.1⟩ : _ ∧ k_ ≠ gb336))) (fun _ hk => hk.2) (.string t355)) (fun _ hk => hk.2) (.int .i64 t356)) (fun _ hk => hk.2) (.slice Ao21 t357.length co21)) (fun _ hk => hk.2) (.slice Ao22 t360.length co22)) (fun _ hk => ⟨hk.1.1.1,hk.1.1.2.1⟩),by repeat (first | (with_reducible first | exact HB.out | apply below_alloc | apply pw_below_drewN | apply below_drew1 | refine below_set ?_ (IsS110.ge HI339.out) | refine below_set ?_ GE336.out | refine below_set ?_ GE364.out) | exact HB.out)⟩

/-! ### impl_kindAt: function 92 -/
def impl_kindAt.f (a0 : ByteArray) : Option (Int × Int × Bool):=if (a0.size : Int) = 3 then (if 0 < (a0.size : Int) then (if (bt a0 0) = 83 then (if 1 < (a0.size : Int) then (if (bt a0 1) < 48 then (some (0,0,false)) else (if (bt a0 1) > 57 then (some (0,0,false)) else (if 2 < (a0.size : Int) then (if (bt a0 2) < 48 then (some (0,0,false)) else (if (bt a0 2) > 57 then (some (0,0,false)) else (some (((bt a0 1) - 48) % 256,((bt a0 2) - 48) % 256,true)))) else (none)))) else (none)) else (some (0,0,false))) else (none)) else (some (0,0,false))
set_option maxHeartbeats 8000000 in
set_option maxRecDepth 100000 in
theorem impl_kindAt.calls (a0 : ByteArray) (r1 : Int) (r2 : Int) (r3 : Bool) (w : World) (h : impl_kindAt.f a0 = some (r1,r2,r3)) :
  Calls Try.prog 92 #[.string a0] w fun e w' => e = .returned (.tuple #[.int .i64 r1,.int .i64 r2,.bool r3]) ∧ Drawn0 w w':=by
 have H : (if (a0.size : Int) = 3 then (if 0 < (a0.size : Int) then (if (bt a0 0) = 83 then (if 1 < (a0.size : Int) then (if (bt a0 1) < 48 then (some (0,0,false)) else (if (bt a0 1) > 57 then (some (0,0,false)) else (if 2 < (a0.size : Int) then (if (bt a0 2) < 48 then (some (0,0,false)) else (if (bt a0 2) > 57 then (some (0,0,false)) else (some (((bt a0 1) - 48) % 256,((bt a0 2) - 48) % 256,true)))) else (none)))) else (none)) else (some (0,0,false))) else (none)) else (some (0,0,false))) = some (r1,r2,r3):=h
 clear h
 by_cases c2 : (a0.size : Int) = 3
 ·rw [if_pos c2] at H
  have c2b0 : ((a0.size : Int) == 3) = true:=beq_iff_eq.mpr c2
  have c2b1 : ((a0.size : Int) != 3) = false:=bne_eq_false_iff_eq.mpr c2
  clear c2
  by_cases c3 : 0 < (a0.size : Int)
  ·rw [if_pos c3] at H
   have c3b0 : decide (0 < (a0.size : Int)) = true:=decide_eq_true c3
   have c3b1 : decide (0 < a0.size) = true:=decide_eq_true (by omega)
   clear c3
   by_cases c5 : (bt a0 0) = 83
   ·rw [if_pos c5] at H
    have c5b0 : ((bt a0 0) == 83) = true:=beq_iff_eq.mpr c5
    have c5b1 : ((bt a0 0) != 83) = false:=bne_eq_false_iff_eq.mpr c5
    clear c5
    by_cases c6 : 1 < (a0.size : Int)
    ·rw [if_pos c6] at H
     have c6b0 : decide (1 < (a0.size : Int)) = true:=decide_eq_true c6
     have c6b1 : decide (1 < a0.size) = true:=decide_eq_true (by omega)
     clear c6
     by_cases c8 : (bt a0 1) < 48
     ·rw [if_pos c8] at H
      have c8b0 : decide ((bt a0 1) < 48) = true:=decide_eq_true c8
      clear c8
      simp only [Option.some.injEq,Prod.mk.injEq] at H
      obtain ⟨rfl,rfl,rfl⟩:=H
      have p4 : 0 ≤ (0 : Int):=(by omega)
      have q4 : 0 < a0.size:=(by have : (0 : Int) < (a0.size : Int):=Up.od;omega)
      have hx4 : ∀ h : 0 < a0.size,((a0[0]'h).toNat : Int) = bt a0 0:=bt_at a0 0
      clear p4
      have qi4 : (0 < (a0.size : Int)) = True:=eq_true (Up.od)
      replace q4:=eq_true q4
      have p7 : 0 ≤ (1 : Int):=(by omega)
      have q7 : 1 < a0.size:=(by have : (1 : Int) < (a0.size : Int):=Up.od;omega)
      have hx7 : ∀ h : 1 < a0.size,((a0[1]'h).toNat : Int) = bt a0 1:=bt_at a0 1
      clear p7
      have qi7 : (1 < (a0.size : Int)) = True:=eq_true (Up.od)
      replace q7:=eq_true q7
      go_enter Try.func92,Try.ntmps92
      go_wp2
      repeat (go_quiet (fail);try go_wp2)
      go_ret3
      exact Up.e2
     ·rw [if_neg c8] at H
      have c8b0 : decide ((bt a0 1) < 48) = false:=decide_eq_false c8
      clear c8
      by_cases c10 : (bt a0 1) > 57
      ·rw [if_pos c10] at H
       have c10b0 : decide (57 < (bt a0 1)) = true:=decide_eq_true c10
       clear c10
       simp only [Option.some.injEq,Prod.mk.injEq] at H
       obtain ⟨rfl,rfl,rfl⟩:=H
       have p4 : 0 ≤ (0 : Int):=(by omega)
       have q4 : 0 < a0.size:=(by have : (0 : Int) < (a0.size : Int):=Up.od;omega)
       have hx4 : ∀ h : 0 < a0.size,((a0[0]'h).toNat : Int) = bt a0 0:=bt_at a0 0
       clear p4
       have qi4 : (0 < (a0.size : Int)) = True:=eq_true (Up.od)
       replace q4:=eq_true q4
       have p7 : 0 ≤ (1 : Int):=(by omega)
       have q7 : 1 < a0.size:=(by have : (1 : Int) < (a0.size : Int):=Up.od;omega)
       have hx7 : ∀ h : 1 < a0.size,((a0[1]'h).toNat : Int) = bt a0 1:=bt_at a0 1
       clear p7
       have qi7 : (1 < (a0.size : Int)) = True:=eq_true (Up.od)
       replace q7:=eq_true q7
       have p9 : 0 ≤ (1 : Int):=(by omega)
       have q9 : 1 < a0.size:=(by have : (1 : Int) < (a0.size : Int):=Up.od;omega)
       have hx9 : ∀ h : 1 < a0.size,((a0[1]'h).toNat : Int) = bt a0 1:=bt_at a0 1
       clear p9
       have qi9 : (1 < (a0.size : Int)) = True:=eq_true (Up.od)
       replace q9:=eq_true q9
       go_enter Try.func92,Try.ntmps92
       go_wp2
       repeat (go_quiet (fail);try go_wp2)
       go_ret3
       exact Up.e2
      ·rw [if_neg c10] at H
       have c10b0 : decide (57 < (bt a0 1)) = false:=decide_eq_false c10
       clear c10
       by_cases c11 : 2 < (a0.size : Int)
       ·rw [if_pos c11] at H
        have c11b0 : decide (2 < (a0.size : Int)) = true:=decide_eq_true c11
        have c11b1 : decide (2 < a0.size) = true:=decide_eq_true (by omega)
        clear c11
        by_cases c13 : (bt a0 2) < 48
        ·rw [if_pos c13] at H
         have c13b0 : decide ((bt a0 2) < 48) = true:=decide_eq_true c13
         clear c13
         simp only [Option.some.injEq,Prod.mk.injEq] at H
         obtain ⟨rfl,rfl,rfl⟩:=H
         have p4 : 0 ≤ (0 : Int):=(by omega)
         have q4 : 0 < a0.size:=(by have : (0 : Int) < (a0.size : Int):=Up.od;omega)
         have hx4 : ∀ h : 0 < a0.size,((a0[0]'h).toNat : Int) = bt a0 0:=bt_at a0 0
         clear p4
         have qi4 : (0 < (a0.size : Int)) = True:=eq_true (Up.od)
         replace q4:=eq_true q4
         have p7 : 0 ≤ (1 : Int):=(by omega)
         have q7 : 1 < a0.size:=(by have : (1 : Int) < (a0.size : Int):=Up.od;omega)
         have hx7 : ∀ h : 1 < a0.size,((a0[1]'h).toNat : Int) = bt a0 1:=bt_at a0 1
         clear p7
         have qi7 : (1 < (a0.size : Int)) = True:=eq_true (Up.od)
         replace q7:=eq_true q7
         have p9 : 0 ≤ (1 : Int):=(by omega)
         have q9 : 1 < a0.size:=(by have : (1 : Int) < (a0.size : Int):=Up.od;omega)
         have hx9 : ∀ h : 1 < a0.size,((a0[1]'h).toNat : Int) = bt a0 1:=bt_at a0 1
         clear p9
         have qi9 : (1 < (a0.size : Int)) = True:=eq_true (Up.od)
         replace q9:=eq_true q9
         have p12 : 0 ≤ (2 : Int):=(by omega)
         have q12 : 2 < a0.size:=(by have : (2 : Int) < (a0.size : Int):=Up.od;omega)
         have hx12 : ∀ h : 2 < a0.size,((a0[2]'h).toNat : Int) = bt a0 2:=bt_at a0 2
         clear p12
         have qi12 : (2 < (a0.size : Int)) = True:=eq_true (Up.od)
         replace q12:=eq_true q12
         go_enter Try.func92,Try.ntmps92
         go_wp2
         repeat (go_quiet (fail);try go_wp2)
         go_ret3
         exact Up.e2
        ·rw [if_neg c13] at H
         have c13b0 : decide ((bt a0 2) < 48) = false:=decide_eq_false c13
         clear c13
         by_cases c15 : (bt a0 2) > 57
         ·rw [if_pos c15] at H
          have c15b0 : decide (57 < (bt a0 2)) = true:=decide_eq_true c15
          clear c15
          simp only [Option.some.injEq,Prod.mk.injEq] at H
          obtain ⟨rfl,rfl,rfl⟩:=H
          have p4 : 0 ≤ (0 : Int):=(by omega)
          have q4 : 0 < a0.size:=(by have : (0 : Int) < (a0.size : Int):=Up.od;omega)
          have hx4 : ∀ h : 0 < a0.size,((a0[0]'h).toNat : Int) = bt a0 0:=bt_at a0 0
          clear p4
          have qi4 : (0 < (a0.size : Int)) = True:=eq_true (Up.od)
          replace q4:=eq_true q4
          have p7 : 0 ≤ (1 : Int):=(by omega)
          have q7 : 1 < a0.size:=(by have : (1 : Int) < (a0.size : Int):=Up.od;omega)
          have hx7 : ∀ h : 1 < a0.size,((a0[1]'h).toNat : Int) = bt a0 1:=bt_at a0 1
          clear p7
          have qi7 : (1 < (a0.size : Int)) = True:=eq_true (Up.od)
          replace q7:=eq_true q7
          have p9 : 0 ≤ (1 : Int):=(by omega)
          have q9 : 1 < a0.size:=(by have : (1 : Int) < (a0.size : Int):=Up.od;omega)
          have hx9 : ∀ h : 1 < a0.size,((a0[1]'h).toNat : Int) = bt a0 1:=bt_at a0 1
          clear p9
          have qi9 : (1 < (a0.size : Int)) = True:=eq_true (Up.od)
          replace q9:=eq_true q9
          have p12 : 0 ≤ (2 : Int):=(by omega)
          have q12 : 2 < a0.size:=(by have : (2 : Int) < (a0.size : Int):=Up.od;omega)
          have hx12 : ∀ h : 2 < a0.size,((a0[2]'h).toNat : Int) = bt a0 2:=bt_at a0 2
          clear p12
          have qi12 : (2 < (a0.size : Int)) = True:=eq_true (Up.od)
          replace q12:=eq_true q12
          have p14 : 0 ≤ (2 : Int):=(by omega)
          have q14 : 2 < a0.size:=(by have : (2 : Int) < (a0.size : Int):=Up.od;omega)
          have hx14 : ∀ h : 2 < a0.size,((a0[2]'h).toNat : Int) = bt a0 2:=bt_at a0 2
          clear p14
          have qi14 : (2 < (a0.size : Int)) = True:=eq_true (Up.od)
          replace q14:=eq_true q14
          go_enter Try.func92,Try.ntmps92
          go_wp2
          repeat (go_quiet (fail);try go_wp2)
          go_ret3
          exact Up.e2
         ·rw [if_neg c15] at H
          have c15b0 : decide (57 < (bt a0 2)) = false:=decide_eq_false c15
          clear c15
          simp only [Option.some.injEq,Prod.mk.injEq] at H
          obtain ⟨rfl,rfl,rfl⟩:=H
          have p4 : 0 ≤ (0 : Int):=(by omega)
          have q4 : 0 < a0.size:=(by have : (0 : Int) < (a0.size : Int):=Up.od;omega)
          have hx4 : ∀ h : 0 < a0.size,((a0[0]'h).toNat : Int) = bt a0 0:=bt_at a0 0
          clear p4
          have qi4 : (0 < (a0.size : Int)) = True:=eq_true (Up.od)
          replace q4:=eq_true q4
          have p7 : 0 ≤ (1 : Int):=(by omega)
          have q7 : 1 < a0.size:=(by have : (1 : Int) < (a0.size : Int):=Up.od;omega)
          have hx7 : ∀ h : 1 < a0.size,((a0[1]'h).toNat : Int) = bt a0 1:=bt_at a0 1
          clear p7
          have qi7 : (1 < (a0.size : Int)) = True:=eq_true (Up.od)
          replace q7:=eq_true q7
          have p9 : 0 ≤ (1 : Int):=(by omega)
          have q9 : 1 < a0.size:=(by have : (1 : Int) < (a0.size : Int):=Up.od;omega)
          have hx9 : ∀ h : 1 < a0.size,((a0[1]'h).toNat : Int) = bt a0 1:=bt_at a0 1
          clear p9
          have qi9 : (1 < (a0.size : Int)) = True:=eq_true (Up.od)
          replace q9:=eq_true q9
          have p12 : 0 ≤ (2 : Int):=(by omega)
          have q12 : 2 < a0.size:=(by have : (2 : Int) < (a0.size : Int):=Up.od;omega)
          have hx12 : ∀ h : 2 < a0.size,((a0[2]'h).toNat : Int) = bt a0 2:=bt_at a0 2
          clear p12
          have qi12 : (2 < (a0.size : Int)) = True:=eq_true (Up.od)
          replace q12:=eq_true q12
          have p14 : 0 ≤ (2 : Int):=(by omega)
          have q14 : 2 < a0.size:=(by have : (2 : Int) < (a0.size : Int):=Up.od;omega)
          have hx14 : ∀ h : 2 < a0.size,((a0[2]'h).toNat : Int) = bt a0 2:=bt_at a0 2
          clear p14
          have qi14 : (2 < (a0.size : Int)) = True:=eq_true (Up.od)
          replace q14:=eq_true q14
          have p16 : 0 ≤ (1 : Int):=(by omega)
          have q16 : 1 < a0.size:=(by have : (1 : Int) < (a0.size : Int):=Up.od;omega)
          have hx16 : ∀ h : 1 < a0.size,((a0[1]'h).toNat : Int) = bt a0 1:=bt_at a0 1
          clear p16
          have qi16 : (1 < (a0.size : Int)) = True:=eq_true (Up.od)
          replace q16:=eq_true q16
          have p17 : 0 ≤ (2 : Int):=(by omega)
          have q17 : 2 < a0.size:=(by have : (2 : Int) < (a0.size : Int):=Up.od;omega)
          have hx17 : ∀ h : 2 < a0.size,((a0[2]'h).toNat : Int) = bt a0 2:=bt_at a0 2
          clear p17
          have qi17 : (2 < (a0.size : Int)) = True:=eq_true (Up.od)
          replace q17:=eq_true q17
          go_enter Try.func92,Try.ntmps92
          go_wp2
          repeat (go_quiet (fail);try go_wp2)
          go_ret3
          exact Up.e2
       ·rw [if_neg c11] at H
        exact absurd H (by simp)
    ·rw [if_neg c6] at H
     exact absurd H (by simp)
   ·rw [if_neg c5] at H
    have c5b0 : ((bt a0 0) == 83) = false:=beq_eq_false_iff_ne.mpr c5
    have c5b1 : ((bt a0 0) != 83) = true:=bne_iff_ne.mpr c5
    simp only [Option.some.injEq,Prod.mk.injEq] at H
    obtain ⟨rfl,rfl,rfl⟩:=H
    have p4 : 0 ≤ (0 : Int):=(by omega)
    have q4 : 0 < a0.size:=(by have : (0 : Int) < (a0.size : Int):=Up.od;omega)
    have hx4 : ∀ h : 0 < a0.size,((a0[0]'h).toNat : Int) = bt a0 0:=bt_at a0 0
    clear p4
    have qi4 : (0 < (a0.size : Int)) = True:=eq_true (Up.od)
    replace q4:=eq_true q4
    go_enter Try.func92,Try.ntmps92
    go_wp2
    repeat (go_quiet (fail);try go_wp2)
    go_ret3
    exact Up.e2
  ·rw [if_neg c3] at H
   exact absurd H (by simp)
 ·rw [if_neg c2] at H
  have c2b0 : ((a0.size : Int) == 3) = false:=beq_eq_false_iff_ne.mpr c2
  have c2b1 : ((a0.size : Int) != 3) = true:=bne_iff_ne.mpr c2
  simp only [Option.some.injEq,Prod.mk.injEq] at H
  obtain ⟨rfl,rfl,rfl⟩:=H
  go_enter Try.func92,Try.ntmps92
  go_wp2
  repeat (go_quiet (fail);try go_wp2)
  go_ret3
  exact Up.e2

/-! ### impl_kindIn: function 48 -/
def impl_kindIn.f (l0 : List (List (S113))) (a1 : ByteArray) : Option (Bool):=(impl_kindAt.f a1).bind fun bt367 => (if bt367.2.2 = true then (if bt367.1 < (l0.length : Int) then (if 0 ≤ bt367.1 then (some (decide (bt367.2.1 < ((rd_L5 l0 bt367.1).length : Int)))) else (none)) else (some false)) else (some false))
set_option maxHeartbeats 8000000 in
set_option maxRecDepth 100000 in
theorem impl_kindIn.calls (A0 : Option Addr) (c0 : Nat) (l0 : List (List (S113))) (a1 : ByteArray) (r : Bool) (w : World) (hr0 : Kd.C (Kd.slice 113 k113) w A0 l0.length l0) (hc0 : l0.length ≤ c0) (h : impl_kindIn.f l0 a1 = some r) :
  Calls Try.prog 48 #[.slice A0 l0.length c0,.string a1] w fun e w' => e = .returned (.bool r) ∧ Drawn0 w w':=by
 have HR0:=Aside0.mk hr0
 have HC0:=Aside0.mk hc0
 clear hr0 hc0
 have H : ((impl_kindAt.f a1).bind fun bt367 => (if bt367.2.2 = true then (if bt367.1 < (l0.length : Int) then (if 0 ≤ bt367.1 then (some (decide (bt367.2.1 < ((rd_L5 l0 bt367.1).length : Int)))) else (none)) else (some false)) else (some false))) = some r:=h
 clear h
 replace H:=Option.bind_eq_some_iff.mp H
 obtain ⟨⟨t367,t368,t369⟩,A30,H⟩:=H
 replace H : (if t369 = true then (if t367 < (l0.length : Int) then (if 0 ≤ t367 then (some (decide (t368 < ((rd_L5 l0 t367).length : Int)))) else (none)) else (some false)) else (some false)) = some r:=H
 have A3:=Aside0.mk A30
 clear A30
 by_cases c4 : t369 = true
 ·subst c4
  have H1 : (if t367 < (l0.length : Int) then (if 0 ≤ t367 then (some (decide (t368 < ((rd_L5 l0 t367).length : Int)))) else (none)) else (some false)) = some r:=by rw [if_pos rfl] at H;exact H
  clear H
  have H:=H1
  clear H1
  by_cases c5 : t367 < (l0.length : Int)
  ·rw [if_pos c5] at H
   have c5b0 : decide (t367 < (l0.length : Int)) = true:=decide_eq_true c5
   clear c5
   by_cases c6 : 0 ≤ t367
   ·rw [if_pos c6] at H
    have c6b0 : decide (0 ≤ t367) = true:=decide_eq_true c6
    clear c6
    obtain rfl:=Option.some.inj H
    go_enter Try.func48,Try.ntmps48
    go_wp2_with (first | ((with_reducible refine gate_callee (f:=92) rfl ?_);refine Up.gl (some 10) Try.func92 #[.string a1] ?_;(with_reducible refine (impl_kindAt.calls a1 t367 t368 true _ A3.out).mono ?_);rintro e w' ⟨rfl,⟨nd,rfl⟩⟩;refine ⟨_,rfl,?_⟩;have p370 : 0 ≤ (t367 : Int):=Up.od;have q370 : t367 < (l0.length : Int):=Up.od;obtain ⟨ad370,A370_0,c370_0,e370,hx370_0,hl370_0,hi370_0⟩:=at_L5 HR0.out t367 p370 q370;cases e370;have HR370_0:=Aside0.mk hi370_0;have HC370_0:=Aside0.mk hl370_0;clear hi370_0 hl370_0;replace p370:=eq_true p370;replace q370:=eq_true q370))
    go_ret
    exact Up.e2
   ·rw [if_neg c6] at H
    exact absurd H (by simp)
  ·rw [if_neg c5] at H
   have c5b0 : decide (t367 < (l0.length : Int)) = false:=decide_eq_false c5
   clear c5
   obtain rfl:=Option.some.inj H
   go_enter Try.func48,Try.ntmps48
   go_wp2_with (first | ((with_reducible refine gate_callee (f:=92) rfl ?_);refine Up.gl (some 10) Try.func92 #[.string a1] ?_;(with_reducible refine (impl_kindAt.calls a1 t367 t368 true _ A3.out).mono ?_);rintro e w' ⟨rfl,⟨nd,rfl⟩⟩;refine ⟨_,rfl,?_⟩))
   go_ret
   exact Up.e2
 ·replace c4:=Bool.eq_false_iff.mpr c4
  subst c4
  have H1 : (some false) = some r:=by rw [if_neg (show ¬ (false = true) by decide)] at H;exact H
  clear H
  have H:=H1
  clear H1
  obtain rfl:=Option.some.inj H
  go_enter Try.func48,Try.ntmps48
  go_wp2_with (first | ((with_reducible refine gate_callee (f:=92) rfl ?_);refine Up.gl (some 10) Try.func92 #[.string a1] ?_;(with_reducible refine (impl_kindAt.calls a1 t367 t368 false _ A3.out).mono ?_);rintro e w' ⟨rfl,⟨nd,rfl⟩⟩;refine ⟨_,rfl,?_⟩))
  go_ret
  exact Up.e2

/-! ### impl_plainOk: function 90 -/
def impl_plainOk.f (l0 : List (List (S113))) (a1 : ByteArray) : Option (Bool):=if a1.toList = ([110] : List UInt8) then (some true) else (if a1.toList = ([98] : List UInt8) then (some true) else (if a1.toList = ([111] : List UInt8) then (some true) else ((impl_kindIn.f l0 a1).bind fun t371 => (some t371))))
set_option maxHeartbeats 8000000 in
set_option maxRecDepth 100000 in
theorem impl_plainOk.calls (A0 : Option Addr) (c0 : Nat) (l0 : List (List (S113))) (a1 : ByteArray) (r : Bool) (w : World) (hr0 : Kd.C (Kd.slice 113 k113) w A0 l0.length l0) (hc0 : l0.length ≤ c0) (h : impl_plainOk.f l0 a1 = some r) :
  Calls Try.prog 90 #[.slice A0 l0.length c0,.string a1] w fun e w' => e = .returned (.bool r) ∧ Drawn0 w w':=by
 have HR0:=Aside0.mk hr0
 have HC0:=Aside0.mk hc0
 clear hr0 hc0
 have H : (if a1.toList = ([110] : List UInt8) then (some true) else (if a1.toList = ([98] : List UInt8) then (some true) else (if a1.toList = ([111] : List UInt8) then (some true) else ((impl_kindIn.f l0 a1).bind fun t371 => (some t371))))) = some r:=h
 clear h
 by_cases c3 : a1.toList = ([110] : List UInt8)
 ·rw [if_pos c3] at H
  have c3b0 : (a1.toList == ([110] : List UInt8)) = true:=beq_iff_eq.mpr c3
  have c3b1 : (a1.toList != ([110] : List UInt8)) = false:=bne_eq_false_iff_eq.mpr c3
  clear c3
  obtain rfl:=Option.some.inj H
  go_enter Try.func90,Try.ntmps90
  go_wp2
  go_ret
  exact Up.e2
 ·rw [if_neg c3] at H
  have c3b0 : (a1.toList == ([110] : List UInt8)) = false:=beq_eq_false_iff_ne.mpr c3
  have c3b1 : (a1.toList != ([110] : List UInt8)) = true:=bne_iff_ne.mpr c3
  by_cases c4 : a1.toList = ([98] : List UInt8)
  ·rw [if_pos c4] at H
   have c4b0 : (a1.toList == ([98] : List UInt8)) = true:=beq_iff_eq.mpr c4
   have c4b1 : (a1.toList != ([98] : List UInt8)) = false:=bne_eq_false_iff_eq.mpr c4
   clear c4
   obtain rfl:=Option.some.inj H
   go_enter Try.func90,Try.ntmps90
   go_wp2
   go_ret
   exact Up.e2
  ·rw [if_neg c4] at H
   have c4b0 : (a1.toList == ([98] : List UInt8)) = false:=beq_eq_false_iff_ne.mpr c4
   have c4b1 : (a1.toList != ([98] : List UInt8)) = true:=bne_iff_ne.mpr c4
   by_cases c5 : a1.toList = ([111] : List UInt8)
   ·rw [if_pos c5] at H
    have c5b0 : (a1.toList == ([111] : List UInt8)) = true:=beq_iff_eq.mpr c5
    have c5b1 : (a1.toList != ([111] : List UInt8)) = false:=bne_eq_false_iff_eq.mpr c5
    clear c5
    obtain rfl:=Option.some.inj H
    go_enter Try.func90,Try.ntmps90
    go_wp2
    go_ret
    exact Up.e2
   ·rw [if_neg c5] at H
    have c5b0 : (a1.toList == ([111] : List UInt8)) = false:=beq_eq_false_iff_ne.mpr c5
    have c5b1 : (a1.toList != ([111] : List UInt8)) = true:=bne_iff_ne.mpr c5
    replace H:=Option.bind_eq_some_iff.mp H
    obtain ⟨t371,A60,H⟩:=H
    replace H : (some t371) = some r:=H
    have A6:=Aside0.mk A60
    clear A60
    obtain rfl:=Option.some.inj H
    go_enter Try.func90,Try.ntmps90
    go_wp2_with (first | (go_at_call 48;(with_reducible refine (impl_kindIn.calls _ _ l0 a1 t371 _ ?side1 ?side2 A6.out).mono ?_);(case side1 => repeat (first | exact HR0.out | (with_reducible refine Kd.C_alloc ?_ _) | (with_reducible refine Kd.C_drewN ?_ _) | (with_reducible refine Kd.C_drew ?_)));(case side2 => exact HC0.out);rintro e w' ⟨rfl,⟨nd,rfl⟩⟩))
    go_ret
    exact Up.e2

/-! ### impl_recordOf: function 91 -/
def impl_recordOf.f (l0 : List (List (S113))) (a1 : ByteArray) : Option (Int × List ByteArray):=(impl_kindAt.f a1).bind fun bt373 => (if 0 ≤ bt373.1 then (if bt373.1 < (l0.length : Int) then (if 0 ≤ bt373.2.1 then (if bt373.2.1 < ((rd_L5 l0 bt373.1).length : Int) then (some ((rd_T113 (rd_L5 l0 bt373.1) bt373.2.1).f0,(rd_T113 (rd_L5 l0 bt373.1) bt373.2.1).f1)) else (none)) else (none)) else (none)) else (none))
set_option maxHeartbeats 8000000 in
set_option maxRecDepth 100000 in
theorem impl_recordOf.calls (P0_ : Nat → Prop) (A0 : Option Addr) (c0 : Nat) (l0 : List (List (S113))) (a1 : ByteArray) (r1 : Int) (r2 : List ByteArray) (w : World) (hs0 : Kd.V (Kd.slice 113 k113) 82 w w.heap.size (fun k_ => P0_ k_) (.slice A0 l0.length c0) l0) (h : impl_recordOf.f l0 a1 = some (r1,r2)) :
  Calls Try.prog 91 #[.slice A0 l0.length c0,.string a1] w fun e w' => ∃ v1_ : Value,e = .returned (.agg #[.int .i64 r1,v1_]) ∧ Kd.V Kd.string 9 w' w.heap.size (fun k_ => (P0_ k_ ∨ w.heap.size ≤ k_)) v1_ r2 ∧ Below w.heap.size w w':=by
 have hu113:=Try.underlying113
 have HO0:=Aside0.mk (show Kd.V (Kd.slice 113 k113) 82 w w.heap.size (fun k_ => (P0_ k_ ∨ w.heap.size ≤ k_)) (.slice A0 l0.length c0) l0 from Kd.V_mono hs0 (fun k_ hk => .inl hk))
 have HB:=Aside0.mk (Below.refl w.heap.size w)
 have H : ((impl_kindAt.f a1).bind fun bt373 => (if 0 ≤ bt373.1 then (if bt373.1 < (l0.length : Int) then (if 0 ≤ bt373.2.1 then (if bt373.2.1 < ((rd_L5 l0 bt373.1).length : Int) then (some ((rd_T113 (rd_L5 l0 bt373.1) bt373.2.1).f0,(rd_T113 (rd_L5 l0 bt373.1) bt373.2.1).f1)) else (none)) else (none)) else (none)) else (none))) = some (r1,r2):=h
 clear h
 replace H:=Option.bind_eq_some_iff.mp H
 obtain ⟨⟨t373,t374,t375⟩,A30,H⟩:=H
 replace H : (if 0 ≤ t373 then (if t373 < (l0.length : Int) then (if 0 ≤ t374 then (if t374 < ((rd_L5 l0 t373).length : Int) then (some ((rd_T113 (rd_L5 l0 t373) t374).f0,(rd_T113 (rd_L5 l0 t373) t374).f1)) else (none)) else (none)) else (none)) else (none)) = some (r1,r2):=H
 have A3:=Aside0.mk A30
 clear A30
 by_cases c4 : 0 ≤ t373
 ·rw [if_pos c4] at H
  have c4b0 : decide (0 ≤ t373) = true:=decide_eq_true c4
  clear c4
  by_cases c5 : t373 < (l0.length : Int)
  ·rw [if_pos c5] at H
   have c5b0 : decide (t373 < (l0.length : Int)) = true:=decide_eq_true c5
   clear c5
   by_cases c6 : 0 ≤ t374
   ·rw [if_pos c6] at H
    have c6b0 : decide (0 ≤ t374) = true:=decide_eq_true c6
    clear c6
    by_cases c7 : t374 < ((rd_L5 l0 t373).length : Int)
    ·rw [if_pos c7] at H
     have c7b0 : decide (t374 < ((rd_L5 l0 t373).length : Int)) = true:=decide_eq_true c7
     clear c7
     simp only [Option.some.injEq,Prod.mk.injEq] at H
     obtain ⟨rfl,rfl⟩:=H
     go_enter Try.func91,Try.ntmps91
     go_wp2_with (first | ((with_reducible refine gate_dst (N:=4) rfl ?_);refine Up.bx 4 113 #[.int .i64 0,.slice none 0 0] ?_;intro gb372 hg w8 hbox hb;have n0_:=Aside0.mk (Kd.V_below (Kd.V_elderB (Up.Vup HO0) gb372 (Nat.le_of_eq hg.symm)) hb);have n1_:=Up.BB HB hb;have n2_:=Aside0.mk (hbox);have n3_:=Up.gw hg HB;have n4_:=Up.gw hg HB;clear HO0 HB;have HO0:=n0_;have HB:=n1_;have BK372:=n2_;have GW372:=n3_;have GE372:=n4_;clear n0_ n1_ n2_ n3_ n4_ hb hbox hg) | ((with_reducible refine gate_callee (f:=92) rfl ?_);refine Up.gl (some 10) Try.func92 #[.string a1] ?_;(with_reducible refine (impl_kindAt.calls a1 t373 t374 t375 _ A3.out).mono ?_);rintro e w' ⟨rfl,⟨nd,rfl⟩⟩;refine ⟨_,rfl,?_⟩;(try (rw [drewN_self w8];generalize hq_ : World.drewN w8 _ = w8;have n0_ : Aside0 (Kd.V (Kd.slice 113 k113) 82 w8 w.heap.size (fun k_ => (P0_ k_ ∨ w.heap.size ≤ k_) ∧ k_ ≠ gb372) (.slice A0 l0.length c0) l0):=⟨by rw [← hq_];exact (Up.Vup HO0)⟩;have n1_ : Aside0 (w8.heap[gb372]? = some (.cells #[.int .i64 0,.slice none 0 0] 113 (0,0))):=⟨by rw [← hq_];exact (Up.Kup BK372)⟩;have n2_ : Aside0 (Below w.heap.size w w8):=⟨by rw [← hq_];exact (Up.Bx HB)⟩;clear HO0 BK372 HB hq_;have HO0:=n0_;have BK372:=n1_;have HB:=n2_;clear n0_ n1_ n2_));have p376 : 0 ≤ (t373 : Int):=Up.od;have q376 : t373 < (l0.length : Int):=Up.od;obtain ⟨ad376,A376_0,c376_0,e376,hx376_0,hl376_0,hi376_0⟩:=at_L5 (Kd.V_reads' HO0.out).2.2 t373 p376 q376;cases e376;obtain ⟨ce376,hce376,hMe376,hcc376⟩:=Kd.V_get HO0.out [] t373 p376 (by first | exact q376 | exact Up.od | (have e_:=(Kd.V_reads' HO0.out).1;omega));obtain ⟨ua376_0,uc376_0,rfl,ul376_0,ge376_0⟩:=Kd.FK_slice_open hMe376;have hv376_0:=hcc376 0 _ rfl;rw [Nat.add_zero,show ((Kd.slice 113 k113)).sz = 1 from rfl,Nat.mul_one] at hv376_0;replace hv376_0:=Option.some.inj (hv376_0.symm.trans hx376_0);injection hv376_0 with hva_ hvn_ hvc_;rw [hva_] at ge376_0;rw [hvc_] at ul376_0;have HL376_0:=Aside0.mk (show Kd.V k113 113 _ w.heap.size _ _ (rd_L5 l0 t373) from Kd.V_mk ul376_0 ge376_0);clear hva_ hvn_ hvc_ ge376_0 ul376_0 hcc376 hce376;have HR376_0:=Aside0.mk hi376_0;have HC376_0:=Aside0.mk hl376_0;clear hi376_0 hl376_0;replace p376:=eq_true p376;replace q376:=eq_true q376;have p377 : 0 ≤ (t374 : Int):=Up.od;have q377 : t374 < ((rd_L5 l0 t373).length : Int):=Up.od;obtain ⟨ad377,A377_1,c377_1,e377,hx377_0,hx377_1,hl377_1,hi377_1⟩:=at_T113 (by repeat (first | (with_reducible exact HR376_0.out) | (with_reducible refine Kd.C_alloc ?_ _) | (with_reducible refine Kd.C_drewN ?_ _) | (with_reducible refine Kd.C_drew ?_) | exact HR376_0.out)) t374 p377 q377;cases e377;obtain ⟨ce377,hce377,hMe377,hcc377⟩:=Kd.V_get HL376_0.out z113 t374 p377 (by first | exact q377 | exact Up.od | (have e_:=(Kd.V_reads' HL376_0.out).1;omega));obtain ⟨ua377_1,uc377_1,rfl,ul377_1,ge377_1⟩:=k113_openF hMe377;have hv377_1:=hcc377 1 _ rfl;rw [add_field _ _ 1 (by omega)] at hv377_1;replace hv377_1:=Option.some.inj (hv377_1.symm.trans hx377_1);injection hv377_1 with hva_ hvn_ hvc_;rw [hva_] at ge377_1;rw [hvc_] at ul377_1;have HL377_1:=Aside0.mk (show Kd.V Kd.string 9 _ w.heap.size _ _ ((rd_T113 (rd_L5 l0 t373) t374).f1) from Kd.V_mk ul377_1 ge377_1);clear hva_ hvn_ hvc_ ge377_1 ul377_1 hcc377 hce377;have HR377_1:=Aside0.mk hi377_1;have HC377_1:=Aside0.mk hl377_1;clear hi377_1 hl377_1;replace p377:=eq_true p377;replace q377:=eq_true q377;have hcz9_0:=Up.c0 BK372;have hcz9_1:=Up.c1 BK372;have hfz9_0:=blk_frozen BK372.out 0;have hfz9_1:=blk_frozen BK372.out 1))
     refine bodyPost_ret (results_cell_row rfl _ _ gb372 113 #[.int .i64 ((rd_T113 (rd_L5 l0 t373) t374).f0),.slice A377_1 ((rd_T113 (rd_L5 l0 t373) t374).f1).length c377_1] (0,0) _ rfl (Up.Kx BK372) Try.underlying113 rfl (by kernel_rfl)) rfl ?_
     exact ⟨_,by first | rfl | (simp [errW_none,errW_some] <;> rfl) | (simp [*,errW_none,errW_some] <;> rfl),by (with_reducible repeat (first | apply Kd.V_alloc | apply Kd.V_drewN | apply Kd.V_drew));exact Kd.V_mono (Kd.V_far (p:=⟨gb372,1,none⟩) (Kd.V_far (p:=⟨gb372,0,none⟩) (Kd.V_mono HL377_1.out (fun k_ hk => (⟨hk,hk.2⟩ : _ ∧ k_ ≠ gb372))) (fun _ hk => hk.2) (.int .i64 ((rd_T113 (rd_L5 l0 t373) t374).f0))) (fun _ hk => hk.2) (.slice A377_1 ((rd_T113 (rd_L5 l0 t373) t374).f1).length c377_1)) (fun _ hk => hk.1.1),Up.Bx HB⟩
    ·rw [if_neg c7] at H
     exact absurd H (by simp)
   ·rw [if_neg c6] at H
    exact absurd H (by simp)
  ·rw [if_neg c5] at H
   exact absurd H (by simp)
 ·rw [if_neg c4] at H
  exact absurd H (by simp)

/-! ### impl_signOf: function 127 -/
def impl_signOf.f (a0 : ByteArray) : Option (ByteArray × ByteArray):=if a0.toList = ([] : List UInt8) then (some ((⟨#[]⟩ : ByteArray),a0)) else (if 0 < (a0.size : Int) then (if (bt a0 0) = 38 then (if 0 ≤ 1 then (if 1 ≤ (a0.size : Int) then (some (a0.extract 0 1,a0.extract 1 a0.size)) else (none)) else (none)) else (if (bt a0 0) = 33 then (if 0 ≤ 1 then (if 1 ≤ (a0.size : Int) then (some (a0.extract 0 1,a0.extract 1 a0.size)) else (none)) else (none)) else (some ((⟨#[]⟩ : ByteArray),a0)))) else (none))
set_option maxHeartbeats 8000000 in
set_option maxRecDepth 100000 in
theorem impl_signOf.calls (a0 : ByteArray) (r1 : ByteArray) (r2 : ByteArray) (w : World) (h : impl_signOf.f a0 = some (r1,r2)) :
  Calls Try.prog 127 #[.string a0] w fun e w' => e = .returned (.tuple #[.string r1,.string r2]) ∧ Drawn0 w w':=by
 have H : (if a0.toList = ([] : List UInt8) then (some ((⟨#[]⟩ : ByteArray),a0)) else (if 0 < (a0.size : Int) then (if (bt a0 0) = 38 then (if 0 ≤ 1 then (if 1 ≤ (a0.size : Int) then (some (a0.extract 0 1,a0.extract 1 a0.size)) else (none)) else (none)) else (if (bt a0 0) = 33 then (if 0 ≤ 1 then (if 1 ≤ (a0.size : Int) then (some (a0.extract 0 1,a0.extract 1 a0.size)) else (none)) else (none)) else (some ((⟨#[]⟩ : ByteArray),a0)))) else (none))) = some (r1,r2):=h
 clear h
 by_cases c2 : a0.toList = ([] : List UInt8)
 ·rw [if_pos c2] at H
  have c2b0 : (a0.toList == ([] : List UInt8)) = true:=beq_iff_eq.mpr c2
  have c2b1 : (a0.toList != ([] : List UInt8)) = false:=bne_eq_false_iff_eq.mpr c2
  clear c2
  simp only [Option.some.injEq,Prod.mk.injEq] at H
  obtain ⟨rfl,rfl⟩:=H
  go_enter Try.func127,Try.ntmps127
  go_wp2
  repeat (go_quiet (fail);try go_wp2)
  go_ret2
  exact Up.e2
 ·rw [if_neg c2] at H
  have c2b0 : (a0.toList == ([] : List UInt8)) = false:=beq_eq_false_iff_ne.mpr c2
  have c2b1 : (a0.toList != ([] : List UInt8)) = true:=bne_iff_ne.mpr c2
  by_cases c3 : 0 < (a0.size : Int)
  ·rw [if_pos c3] at H
   have c3b0 : decide (0 < (a0.size : Int)) = true:=decide_eq_true c3
   have c3b1 : decide (0 < a0.size) = true:=decide_eq_true (by omega)
   clear c3
   by_cases c5 : (bt a0 0) = 38
   ·rw [if_pos c5] at H
    have c5b0 : ((bt a0 0) == 38) = true:=beq_iff_eq.mpr c5
    have c5b1 : ((bt a0 0) != 38) = false:=bne_eq_false_iff_eq.mpr c5
    clear c5
    by_cases c6 : 0 ≤ 1
    ·rw [if_pos c6] at H
     have c6b0:=eq_true c6
     have c6b1 : decide (0 ≤ 1) = true:=decide_eq_true c6
     clear c6
     by_cases c7 : 1 ≤ (a0.size : Int)
     ·rw [if_pos c7] at H
      have c7b0:=eq_true c7
      have c7b1 : decide (1 ≤ (a0.size : Int)) = true:=decide_eq_true c7
      clear c7
      have c8b0:=eq_true (Up.od : 1 ≤ (a0.size : Int))
      simp only [Option.some.injEq,Prod.mk.injEq] at H
      obtain ⟨rfl,rfl⟩:=H
      have p4 : 0 ≤ (0 : Int):=(by omega)
      have q4 : 0 < a0.size:=(by have : (0 : Int) < (a0.size : Int):=Up.od;omega)
      have hx4 : ∀ h : 0 < a0.size,((a0[0]'h).toNat : Int) = bt a0 0:=bt_at a0 0
      clear p4
      have qi4 : (0 < (a0.size : Int)) = True:=eq_true (Up.od)
      replace q4:=eq_true q4
      go_enter Try.func127,Try.ntmps127
      go_wp2
      repeat (go_quiet (fail);try go_wp2)
      go_ret2
      exact Up.e2
     ·rw [if_neg c7] at H
      exact absurd H (by simp)
    ·rw [if_neg c6] at H
     exact absurd H (by simp)
   ·rw [if_neg c5] at H
    have c5b0 : ((bt a0 0) == 38) = false:=beq_eq_false_iff_ne.mpr c5
    have c5b1 : ((bt a0 0) != 38) = true:=bne_iff_ne.mpr c5
    by_cases c10 : (bt a0 0) = 33
    ·rw [if_pos c10] at H
     have c10b0 : ((bt a0 0) == 33) = true:=beq_iff_eq.mpr c10
     have c10b1 : ((bt a0 0) != 33) = false:=bne_eq_false_iff_eq.mpr c10
     clear c10
     by_cases c11 : 0 ≤ 1
     ·rw [if_pos c11] at H
      have c11b0:=eq_true c11
      have c11b1 : decide (0 ≤ 1) = true:=decide_eq_true c11
      clear c11
      by_cases c12 : 1 ≤ (a0.size : Int)
      ·rw [if_pos c12] at H
       have c12b0:=eq_true c12
       have c12b1 : decide (1 ≤ (a0.size : Int)) = true:=decide_eq_true c12
       clear c12
       have c13b0:=eq_true (Up.od : 1 ≤ (a0.size : Int))
       simp only [Option.some.injEq,Prod.mk.injEq] at H
       obtain ⟨rfl,rfl⟩:=H
       have p4 : 0 ≤ (0 : Int):=(by omega)
       have q4 : 0 < a0.size:=(by have : (0 : Int) < (a0.size : Int):=Up.od;omega)
       have hx4 : ∀ h : 0 < a0.size,((a0[0]'h).toNat : Int) = bt a0 0:=bt_at a0 0
       clear p4
       have qi4 : (0 < (a0.size : Int)) = True:=eq_true (Up.od)
       replace q4:=eq_true q4
       have p9 : 0 ≤ (0 : Int):=(by omega)
       have q9 : 0 < a0.size:=(by have : (0 : Int) < (a0.size : Int):=Up.od;omega)
       have hx9 : ∀ h : 0 < a0.size,((a0[0]'h).toNat : Int) = bt a0 0:=bt_at a0 0
       clear p9
       have qi9 : (0 < (a0.size : Int)) = True:=eq_true (Up.od)
       replace q9:=eq_true q9
       go_enter Try.func127,Try.ntmps127
       go_wp2
       repeat (go_quiet (fail);try go_wp2)
       go_ret2
       exact Up.e2
      ·rw [if_neg c12] at H
       exact absurd H (by simp)
     ·rw [if_neg c11] at H
      exact absurd H (by simp)
    ·rw [if_neg c10] at H
     have c10b0 : ((bt a0 0) == 33) = false:=beq_eq_false_iff_ne.mpr c10
     have c10b1 : ((bt a0 0) != 33) = true:=bne_iff_ne.mpr c10
     simp only [Option.some.injEq,Prod.mk.injEq] at H
     obtain ⟨rfl,rfl⟩:=H
     have p4 : 0 ≤ (0 : Int):=(by omega)
     have q4 : 0 < a0.size:=(by have : (0 : Int) < (a0.size : Int):=Up.od;omega)
     have hx4 : ∀ h : 0 < a0.size,((a0[0]'h).toNat : Int) = bt a0 0:=bt_at a0 0
     clear p4
     have qi4 : (0 < (a0.size : Int)) = True:=eq_true (Up.od)
     replace q4:=eq_true q4
     have p9 : 0 ≤ (0 : Int):=(by omega)
     have q9 : 0 < a0.size:=(by have : (0 : Int) < (a0.size : Int):=Up.od;omega)
     have hx9 : ∀ h : 0 < a0.size,((a0[0]'h).toNat : Int) = bt a0 0:=bt_at a0 0
     clear p9
     have qi9 : (0 < (a0.size : Int)) = True:=eq_true (Up.od)
     replace q9:=eq_true q9
     go_enter Try.func127,Try.ntmps127
     go_wp2
     repeat (go_quiet (fail);try go_wp2)
     go_ret2
     exact Up.e2
  ·rw [if_neg c3] at H
   exact absurd H (by simp)

end Go.Proofs.Ytdgmlakgnbmbbaa.OFnValueCount
