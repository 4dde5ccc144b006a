-- Laid by a program of this session (wip/myprint.py): the kit's print of the functions, contracts of our own among them.
import Derived.Test.YtdgmlakgnbmbbaaOFnValueSizex0
import Derived.Test.YtdgmlakgnbmbbaaOFnValueSizex3
import Derived.Test.YtdgmlakgnbmbbaaOFnValueSizex8
import Derived.Test.YtdgmlakgnbmbbaaOFnValueSizex11
import Derived.Test.YtdgmlakgnbmbbaaOFnValueSizex12
namespace Go.Proofs.Ytdgmlakgnbmbbaa.OFnValueSize
open Go.RowKit Go.Proofs.YtdgmlakgnbmbbaaW.PrintWords Go.Proofs.YtdgmlakgnbmbbaaW.PrintLast Go.Proofs.YtdgmlakgnbmbbaaW.PrintMore
attribute [local go_sem] max2_int min2_int max_two min_two max_three min_three max_four min_four   -- for this text's walks alone
set_option linter.unusedVariables false
set_option linter.unusedSimpArgs false

/-! ### spec_ValueOk: function 20 -/
def spec_ValueOk.f (k : Nat) (l0 : List (List (S113))) (a1_0 : ByteArray) (a1_1 : Int) (l1_2 : List (S27)) (l1_3 : List Int) : Option (Bool):=(spec_KindsOk.f k l0).bind fun t430 => (if t430 = true then ((spec_l2Ok.f k l0 a1_0 a1_1 l1_2 l1_3).bind fun t431 => (some t431)) else (some false))
theorem spec_ValueOk.mono : ∀ a0 a1 a2 a3 a4 k,LeO (spec_ValueOk.f k a0 a1 a2 a3 a4) (spec_ValueOk.f (k + 1) a0 a1 a2 a3 a4):=by
 intro a0 a1 a2 a3 a4 k
 unfold spec_ValueOk.f
 repeat' first
   | (with_reducible exact spec_KindsOk.mono _ _)
   | (with_reducible exact spec_l2Ok.mono _ _ _ _ _ _)
   | (with_reducible exact LeO.refl _)
   | (with_reducible exact LeO.none _)
   | (with_reducible refine LeO.ite ?_ ?_)
   | (with_reducible refine LeO.bind ?_ (fun _ => ?_))
   | exact spec_KindsOk.mono _ _
   | exact spec_l2Ok.mono _ _ _ _ _ _
   | exact LeO.none _
   | refine LeO.ite ?_ ?_
   | refine LeO.bind ?_ (fun _ => ?_)
set_option maxHeartbeats 8000000 in
set_option maxRecDepth 100000 in
theorem spec_ValueOk.calls (k : Nat) (A0 : Option Addr) (c0 : Nat) (l0 : List (List (S113))) (a1_0 : ByteArray) (a1_1 : Int) (A1_2 : Option Addr) (c1_2 : Nat) (l1_2 : List (S27)) (A1_3 : Option Addr) (c1_3 : Nat) (l1_3 : List Int) (r : Bool) (w : World) (hr0 : Kd.C (Kd.slice 113 k113) w A0 l0.length l0) (hc0 : l0.length ≤ c0) (hr1_2 : Kd.C k27 w A1_2 l1_2.length l1_2) (hc1_2 : l1_2.length ≤ c1_2) (hr1_3 : Kd.C (Kd.int .i64) w A1_3 l1_3.length l1_3) (hc1_3 : l1_3.length ≤ c1_3) (h : spec_ValueOk.f k l0 a1_0 a1_1 l1_2 l1_3 = some r) :
  Calls Try.prog 20 #[.slice A0 l0.length c0,.agg #[.string a1_0,.int .i64 a1_1,.slice A1_2 l1_2.length c1_2,.slice A1_3 l1_3.length c1_3]] w fun e w' => e = .returned (.bool r) ∧ Below w.heap.size w w':=by
 have hu27:=Try.underlying27
 have HR0:=Aside0.mk hr0
 have HC0:=Aside0.mk hc0
 clear hr0 hc0
 have HR1_2:=Aside0.mk hr1_2
 have HC1_2:=Aside0.mk hc1_2
 clear hr1_2 hc1_2
 have HR1_3:=Aside0.mk hr1_3
 have HC1_3:=Aside0.mk hc1_3
 clear hr1_3 hc1_3
 have HB:=Aside0.mk (Below.refl w.heap.size w)
 have H : ((spec_KindsOk.f k l0).bind fun t430 => (if t430 = true then ((spec_l2Ok.f k l0 a1_0 a1_1 l1_2 l1_3).bind fun t431 => (some t431)) else (some false))) = some r:=h
 clear h
 replace H:=Option.bind_eq_some_iff.mp H
 obtain ⟨t430,A30,H⟩:=H
 replace H : (if t430 = true then ((spec_l2Ok.f k l0 a1_0 a1_1 l1_2 l1_3).bind fun t431 => (some t431)) else (some false)) = some r:=H
 have A3:=Aside0.mk A30
 clear A30
 by_cases c4 : t430 = true
 ·subst c4
  have H1 : ((spec_l2Ok.f k l0 a1_0 a1_1 l1_2 l1_3).bind fun t431 => (some t431)) = some r:=by rw [if_pos rfl] at H;exact H
  clear H
  have H:=H1
  clear H1
  replace H:=Option.bind_eq_some_iff.mp H
  obtain ⟨t431,A50,H⟩:=H
  replace H : (some t431) = some r:=H
  have A5:=Aside0.mk A50
  clear A50
  obtain rfl:=Option.some.inj H
  go_enter Try.func20,Try.ntmps20
  go_wp2_with (first | ((with_reducible refine gate_dst (N:=3) rfl ?_);refine Up.bx 3 27 #[.string a1_0,.int .i64 a1_1,.slice A1_2 l1_2.length c1_2,.slice A1_3 l1_3.length c1_3] ?_;intro gb429 hg w6 hbox hb;have n0_:=Up.BB HB hb;have n1_:=Aside0.mk (hbox);have n2_:=Up.gw hg HB;have n3_:=Up.gw hg HB;clear HB;have HB:=n0_;have BK429:=n1_;have GW429:=n2_;have GE429:=n3_;clear n0_ n1_ n2_ n3_ hb hbox hg) | ((with_reducible refine gate_callee (f:=56) rfl ?_);refine Up.gl (some 6) Try.func56 #[.slice A0 l0.length c0] ?_;(with_reducible refine (spec_KindsOk.calls k _ _ l0 true _ ?side1 ?side2 A3.out).mono ?_);(case side1 => exact Up.Cx HR0 HB);(case side2 => exact HC0.out);rintro e w7 ⟨rfl,hb⟩;refine ⟨_,rfl,?_⟩;have n0_:=Up.KB BK429 hb;have n1_:=Aside0.mk (below_step (Up.Bx HB) hb);clear BK429 HB;have BK429:=n0_;have HB:=n1_;clear n0_ n1_;(try clear hb);(try clear hb2);(try clear hk);(try clear hi);have hcz8_0:=Up.c0 BK429;have hcz8_1:=Up.c1 BK429;have hcz8_2:=Up.c2 BK429;have hcz8_3:=Up.c3 BK429;have hfz8_0:=blk_frozen BK429.out 0;have hfz8_1:=blk_frozen BK429.out 1;have hfz8_2:=blk_frozen BK429.out 2;have hfz8_3:=blk_frozen BK429.out 3) | (go_at_call 57;(with_reducible refine (spec_l2Ok.calls k _ _ l0 a1_0 a1_1 _ _ l1_2 _ _ l1_3 t431 _ ?side1 ?side2 ?side3 ?side4 ?side5 ?side6 A5.out).mono ?_);(case side1 => exact Up.Cx HR0 HB);(case side2 => exact HC0.out);(case side3 => exact Up.Cx HR1_2 HB);(case side4 => exact HC1_2.out);(case side5 => exact Up.Cx HR1_3 HB);(case side6 => exact HC1_3.out);rintro e w9 ⟨rfl,hb⟩;have n0_:=Up.KB BK429 hb;have n1_:=Aside0.mk (below_step (Up.Bx HB) hb);clear BK429 HB;have BK429:=n0_;have HB:=n1_;clear n0_ n1_;(try clear hb);(try clear hb2);(try clear hk);(try clear hi)))
  go_ret
  exact Up.e1 (Up.Bx HB)
 ·replace c4:=Bool.eq_false_iff.mpr c4
  subst c4
  have H1 : (some false) = some r:=by rw [if_neg (show ¬ (false = true) by decide)] at H;exact H
  clear H
  have H:=H1
  clear H1
  obtain rfl:=Option.some.inj H
  go_enter Try.func20,Try.ntmps20
  go_wp2_with (first | ((with_reducible refine gate_dst (N:=3) rfl ?_);refine Up.bx 3 27 #[.string a1_0,.int .i64 a1_1,.slice A1_2 l1_2.length c1_2,.slice A1_3 l1_3.length c1_3] ?_;intro gb429 hg w10 hbox hb;have n0_:=Up.BB HB hb;have n1_:=Aside0.mk (hbox);have n2_:=Up.gw hg HB;have n3_:=Up.gw hg HB;clear HB;have HB:=n0_;have BK429:=n1_;have GW429:=n2_;have GE429:=n3_;clear n0_ n1_ n2_ n3_ hb hbox hg) | ((with_reducible refine gate_callee (f:=56) rfl ?_);refine Up.gl (some 6) Try.func56 #[.slice A0 l0.length c0] ?_;(with_reducible refine (spec_KindsOk.calls k _ _ l0 false _ ?side1 ?side2 A3.out).mono ?_);(case side1 => exact Up.Cx HR0 HB);(case side2 => exact HC0.out);rintro e w11 ⟨rfl,hb⟩;refine ⟨_,rfl,?_⟩;have n0_:=Up.KB BK429 hb;have n1_:=Aside0.mk (below_step (Up.Bx HB) hb);clear BK429 HB;have BK429:=n0_;have HB:=n1_;clear n0_ n1_;(try clear hb);(try clear hb2);(try clear hk);(try clear hi)))
  go_ret
  exact Up.e1 (Up.Bx HB)

/-! ### spec_l2Size: function 44 -/
mutual
def spec_l2Size.l0 : Nat → Int → Int → ByteArray → Int → List (S27) → List Int → Option (Int)
 | 0,_,_,_,_,_,_ => none
 | k + 1,x3,x4,x433000,x433001,x433002,x433003 => if x4 < (x433002.length : Int) then (if 0 ≤ x4 then ((spec_l2Size.f k ((rd_T27 x433002 x4).f0) ((rd_T27 x433002 x4).f1) ((rd_T27 x433002 x4).f2) ((rd_T27 x433002 x4).f3)).bind fun t434 => (spec_l2Size.l0 k (wrap64 (x3 + t434)) (wrap64 (x4 + 1)) x433000 x433001 x433002 x433003)) else (none)) else (some x3)
def spec_l2Size.f : Nat → ByteArray → Int → List (S27) → List Int → Option (Int)
 | 0,_,_,_,_ => none
 | k + 1,a0_0,a0_1,l0_2,l0_3 => spec_l2Size.l0 k 1 0 a0_0 a0_1 l0_2 l0_3
end
theorem spec_l2Size.mono_l : ∀ k,(∀ y0 y1 y2 y3,LeO (spec_l2Size.f k y0 y1 y2 y3) (spec_l2Size.f (k + 1) y0 y1 y2 y3)) ∧ (∀ y0 y1 y2 y3 y4 y5,LeO (spec_l2Size.l0 k y0 y1 y2 y3 y4 y5) (spec_l2Size.l0 (k + 1) y0 y1 y2 y3 y4 y5))
 | 0 => ⟨fun _ _ _ _ r h => by simp [spec_l2Size.f] at h,fun _ _ _ _ _ _ r h => by simp [spec_l2Size.l0] at h⟩
 | k + 1 => by
  obtain ⟨ih0,ih1⟩:=spec_l2Size.mono_l k
  refine ⟨?_,?_⟩
  ·intro y0 y1 y2 y3
   unfold spec_l2Size.f
   repeat' first
   | (with_reducible exact ih0 _ _ _ _)
   | (with_reducible exact ih1 _ _ _ _ _ _)
   | (with_reducible exact LeO.refl _)
   | (with_reducible exact LeO.none _)
   | (with_reducible refine LeO.ite ?_ ?_)
   | (with_reducible refine LeO.bind ?_ (fun _ => ?_))
   | exact ih0 _ _ _ _
   | exact ih1 _ _ _ _ _ _
   | exact LeO.none _
   | refine LeO.ite ?_ ?_
   | refine LeO.bind ?_ (fun _ => ?_)
  ·intro y0 y1 y2 y3 y4 y5
   unfold spec_l2Size.l0
   repeat' first
   | (with_reducible exact ih0 _ _ _ _)
   | (with_reducible exact ih1 _ _ _ _ _ _)
   | (with_reducible exact LeO.refl _)
   | (with_reducible exact LeO.none _)
   | (with_reducible refine LeO.ite ?_ ?_)
   | (with_reducible refine LeO.bind ?_ (fun _ => ?_))
   | exact ih0 _ _ _ _
   | exact ih1 _ _ _ _ _ _
   | exact LeO.none _
   | refine LeO.ite ?_ ?_
   | refine LeO.bind ?_ (fun _ => ?_)
theorem spec_l2Size.mono : ∀ a0 a1 a2 a3 k,LeO (spec_l2Size.f k a0 a1 a2 a3) (spec_l2Size.f (k + 1) a0 a1 a2 a3):=by
 intro a0 a1 a2 a3 k
 obtain ⟨ih0,ih1⟩:=spec_l2Size.mono_l k
 exact ih0 a0 a1 a2 a3
set_option maxHeartbeats 8000000 in
set_option maxRecDepth 100000 in
theorem spec_l2Size.calls (k : Nat) : ∀ (a0_0 : ByteArray) (a0_1 : Int) (A0_2 : Option Addr) (c0_2 : Nat) (l0_2 : List (S27)) (A0_3 : Option Addr) (c0_3 : Nat) (l0_3 : List Int) (r : Int) (w : World) (hr0_2 : Kd.C k27 w A0_2 l0_2.length l0_2) (hc0_2 : l0_2.length ≤ c0_2) (hr0_3 : Kd.C (Kd.int .i64) w A0_3 l0_3.length l0_3) (hc0_3 : l0_3.length ≤ c0_3) (h : spec_l2Size.f k a0_0 a0_1 l0_2 l0_3 = some r),
  Calls Try.prog 44 #[.agg #[.string a0_0,.int .i64 a0_1,.slice A0_2 l0_2.length c0_2,.slice A0_3 l0_3.length c0_3]] w fun e w' => e = .returned (.int .i64 r) ∧ Below w.heap.size w w':=by
 induction k using Nat.strongRecOn with
 | _ k ih =>
 intro a0_0 a0_1 A0_2 c0_2 l0_2 A0_3 c0_3 l0_3 r w hr0_2 hc0_2 hr0_3 hc0_3 h
 cases k with
 | zero => exact absurd h (by simp [spec_l2Size.f])
 | succ k =>
 simp only [spec_l2Size.f] at h
 have hu27:=Try.underlying27
 have HR0_2:=Aside0.mk hr0_2
 have HC0_2:=Aside0.mk hc0_2
 clear hr0_2 hc0_2
 have HR0_3:=Aside0.mk hr0_3
 have HC0_3:=Aside0.mk hc0_3
 clear hr0_3 hc0_3
 have HB:=Aside0.mk (Below.refl w.heap.size w)
 have H : (spec_l2Size.l0 k 1 0 a0_0 a0_1 l0_2 l0_3) = some r:=h
 clear h
 have H':=Aside0.mk H
 clear H
 go_enter Try.func44,Try.ntmps44
 go_wp2_with (first | ((with_reducible refine gate_dst (N:=1) rfl ?_);refine Up.bx 1 27 #[.string a0_0,.int .i64 a0_1,.slice A0_2 l0_2.length c0_2,.slice A0_3 l0_3.length c0_3] ?_;intro gb432 hg w2 hbox hb;have n0_:=Up.BB HB hb;have n1_:=Aside0.mk (hbox);have n2_:=Up.gw hg HB;have n3_:=Up.gw hg HB;clear HB;have HB:=n0_;have BK432:=n1_;have GW432:=n2_;have GE432:=n3_;clear n0_ n1_ n2_ n3_ hb hbox hg))
 go_loopg [3,4] k (fun kq v3 v4 w' => ∃ (x3_1 : Int) (x4_1 : Int),v3 = .int .i64 x3_1 ∧ v4 = .int .i64 x4_1 ∧ Aside0 (spec_l2Size.l0 kq x3_1 x4_1 a0_0 a0_1 l0_2 l0_3 = some r) ∧ Aside0 (kq ≤ k) ∧ Aside0 (w'.heap[gb432]? = some (.cells #[.string a0_0,.int .i64 a0_1,(.slice A0_2 l0_2.length c0_2),(.slice A0_3 l0_3.length c0_3)] 27 (0,0))) ∧ Aside0 (Below w.heap.size w w'))
 case atStart => exact ⟨(1),(0),(by first | rfl | (simp;done) | (simp [*];done)),(by first | rfl | (simp;done) | (simp [*];done)),H',⟨Nat.le_refl _⟩,⟨by (with_reducible repeat (first | refine blk_drewN ?_ _ | refine blk_drew ?_ | refine blk_alloc ?_ _));exact BK432.out⟩,⟨Up.Bx HB⟩⟩
 case round =>
  clear H'
  try clear p2
  obtain ⟨x3_1,x4_1,rfl,rfl,HA,HK1,BK432,HB⟩:=hrel
  cases gk with
  | zero => exact absurd HA.out (by simp [spec_l2Size.l0])
  | succ k1 =>
   have H:=HA.out
   clear HA
   simp only [spec_l2Size.l0] at H
   by_cases c3 : x4_1 < (l0_2.length : Int)
   ·rw [if_pos c3] at H
    have c3b0 : decide (x4_1 < (l0_2.length : Int)) = true:=decide_eq_true c3
    clear c3
    by_cases c4 : 0 ≤ x4_1
    ·rw [if_pos c4] at H
     have c4b0 : decide (0 ≤ x4_1) = true:=decide_eq_true c4
     clear c4
     replace H:=Option.bind_eq_some_iff.mp H
     obtain ⟨t434,A50,H⟩:=H
     replace H : (spec_l2Size.l0 k1 (wrap64 (x3_1 + t434)) (wrap64 (x4_1 + 1)) a0_0 a0_1 l0_2 l0_3) = some r:=H
     have A5:=Aside0.mk A50
     clear A50
     have H':=Aside0.mk H
     clear H
     have hcz6_0:=Up.c0 BK432
     have hcz6_1:=Up.c1 BK432
     have hcz6_2:=Up.c2 BK432
     have hcz6_3:=Up.c3 BK432
     have hfz6_0:=blk_frozen BK432.out 0
     have hfz6_1:=blk_frozen BK432.out 1
     have hfz6_2:=blk_frozen BK432.out 2
     have hfz6_3:=blk_frozen BK432.out 3
     have p433 : 0 ≤ (x4_1 : Int):=Up.od
     have q433 : x4_1 < (l0_2.length : Int):=Up.od
     obtain ⟨ad433,A433_2,c433_2,A433_3,c433_3,e433,hx433_0,hx433_1,hx433_2,hx433_3,hl433_2,hi433_2,hl433_3,hi433_3⟩:=at_T27 HR0_2.out x4_1 p433 q433
     cases e433
     replace hx433_0:=Up.hc HB hx433_0
     replace hx433_1:=Up.hc HB hx433_1
     replace hx433_2:=Up.hc HB hx433_2
     replace hx433_3:=Up.hc HB hx433_3
     have HR433_2:=Aside0.mk hi433_2
     have HC433_2:=Aside0.mk hl433_2
     clear hi433_2 hl433_2
     have HR433_3:=Aside0.mk hi433_3
     have HC433_3:=Aside0.mk hl433_3
     clear hi433_3 hl433_3
     replace p433:=eq_true p433
     replace q433:=eq_true q433
     go_wp2_with (first | ((with_reducible refine gate_callee (f:=44) rfl ?_);refine Up.gl (some 18) Try.func44 #[.agg #[.string ((rd_T27 l0_2 x4_1).f0),.int .i64 ((rd_T27 l0_2 x4_1).f1),.slice A433_2 ((rd_T27 l0_2 x4_1).f2).length c433_2,.slice A433_3 ((rd_T27 l0_2 x4_1).f3).length c433_3]] ?_;(with_reducible refine (ih k1 (by have:=HK1.out;omega) ((rd_T27 l0_2 x4_1).f0) ((rd_T27 l0_2 x4_1).f1) _ _ ((rd_T27 l0_2 x4_1).f2) _ _ ((rd_T27 l0_2 x4_1).f3) t434 _ ?side1 ?side2 ?side3 ?side4 A5.out).mono ?_);(case side1 => exact Up.Cx HR433_2 HB);(case side2 => exact HC433_2.out);(case side3 => exact Up.Cx HR433_3 HB);(case side4 => exact HC433_3.out);rintro e w7 ⟨rfl,hb⟩;refine ⟨_,rfl,?_⟩;have n0_:=Up.KB BK432 hb;have n1_:=Aside0.mk (below_step (Up.Bx HB) hb);clear BK432 HB;have BK432:=n0_;have HB:=n1_;clear n0_ n1_;(try clear hb);(try clear hb2);(try clear hk);(try clear hi)))
     go_roundg k1
     case measure => have:=HK1.out;omega
     case rel => exact ⟨(wrap64 (x3_1 + t434)),(wrap64 (x4_1 + 1)),(by first | rfl | (simp;done) | (simp [*];done)),(by first | rfl | (simp;done) | (simp [*];done)),H',⟨by have:=HK1.out;omega⟩,⟨by (with_reducible repeat (first | refine blk_drewN ?_ _ | refine blk_drew ?_ | refine blk_alloc ?_ _));exact BK432.out⟩,⟨Up.Bx HB⟩⟩
    ·rw [if_neg c4] at H
     exact absurd H (by simp)
   ·rw [if_neg c3] at H
    have c3b0 : decide (x4_1 < (l0_2.length : Int)) = false:=decide_eq_false c3
    clear c3
    obtain rfl:=Option.some.inj H
    have hcz8_0:=Up.c0 BK432
    have hcz8_1:=Up.c1 BK432
    have hcz8_2:=Up.c2 BK432
    have hcz8_3:=Up.c3 BK432
    have hfz8_0:=blk_frozen BK432.out 0
    have hfz8_1:=blk_frozen BK432.out 1
    have hfz8_2:=blk_frozen BK432.out 2
    have hfz8_3:=blk_frozen BK432.out 3
    go_wp2
    go_ret
    exact Up.e1 (Up.Bx HB)

/-! ### spec_ValueSize: function 13 -/
def spec_ValueSize.f (k : Nat) (l0 : List (List (S113))) (a1_0 : ByteArray) (a1_1 : Int) (l1_2 : List (S27)) (l1_3 : List Int) : Option (Int):=(spec_ValueOk.f k l0 a1_0 a1_1 l1_2 l1_3).bind fun t436 => (if t436 = true then ((spec_l2Size.f k a1_0 a1_1 l1_2 l1_3).bind fun t437 => (some t437)) else (some (-1)))
theorem spec_ValueSize.mono : ∀ a0 a1 a2 a3 a4 k,LeO (spec_ValueSize.f k a0 a1 a2 a3 a4) (spec_ValueSize.f (k + 1) a0 a1 a2 a3 a4):=by
 intro a0 a1 a2 a3 a4 k
 unfold spec_ValueSize.f
 repeat' first
   | (with_reducible exact spec_ValueOk.mono _ _ _ _ _ _)
   | (with_reducible exact spec_l2Size.mono _ _ _ _ _)
   | (with_reducible exact LeO.refl _)
   | (with_reducible exact LeO.none _)
   | (with_reducible refine LeO.ite ?_ ?_)
   | (with_reducible refine LeO.bind ?_ (fun _ => ?_))
   | exact spec_ValueOk.mono _ _ _ _ _ _
   | exact spec_l2Size.mono _ _ _ _ _
   | exact LeO.none _
   | refine LeO.ite ?_ ?_
   | refine LeO.bind ?_ (fun _ => ?_)
set_option maxHeartbeats 8000000 in
set_option maxRecDepth 100000 in
theorem spec_ValueSize.calls (k : Nat) (A0 : Option Addr) (c0 : Nat) (l0 : List (List (S113))) (a1_0 : ByteArray) (a1_1 : Int) (A1_2 : Option Addr) (c1_2 : Nat) (l1_2 : List (S27)) (A1_3 : Option Addr) (c1_3 : Nat) (l1_3 : List Int) (r : Int) (w : World) (hr0 : Kd.C (Kd.slice 113 k113) w A0 l0.length l0) (hc0 : l0.length ≤ c0) (hr1_2 : Kd.C k27 w A1_2 l1_2.length l1_2) (hc1_2 : l1_2.length ≤ c1_2) (hr1_3 : Kd.C (Kd.int .i64) w A1_3 l1_3.length l1_3) (hc1_3 : l1_3.length ≤ c1_3) (h : spec_ValueSize.f k l0 a1_0 a1_1 l1_2 l1_3 = some r) :
  Calls Try.prog 13 #[.slice A0 l0.length c0,.agg #[.string a1_0,.int .i64 a1_1,.slice A1_2 l1_2.length c1_2,.slice A1_3 l1_3.length c1_3]] w fun e w' => e = .returned (.int .i64 r) ∧ Below w.heap.size w w':=by
 have hu27:=Try.underlying27
 have HR0:=Aside0.mk hr0
 have HC0:=Aside0.mk hc0
 clear hr0 hc0
 have HR1_2:=Aside0.mk hr1_2
 have HC1_2:=Aside0.mk hc1_2
 clear hr1_2 hc1_2
 have HR1_3:=Aside0.mk hr1_3
 have HC1_3:=Aside0.mk hc1_3
 clear hr1_3 hc1_3
 have HB:=Aside0.mk (Below.refl w.heap.size w)
 have H : ((spec_ValueOk.f k l0 a1_0 a1_1 l1_2 l1_3).bind fun t436 => (if t436 = true then ((spec_l2Size.f k a1_0 a1_1 l1_2 l1_3).bind fun t437 => (some t437)) else (some (-1)))) = some r:=h
 clear h
 replace H:=Option.bind_eq_some_iff.mp H
 obtain ⟨t436,A30,H⟩:=H
 replace H : (if t436 = true then ((spec_l2Size.f k a1_0 a1_1 l1_2 l1_3).bind fun t437 => (some t437)) else (some (-1))) = some r:=H
 have A3:=Aside0.mk A30
 clear A30
 by_cases c4 : t436 = true
 ·subst c4
  have H1 : ((spec_l2Size.f k a1_0 a1_1 l1_2 l1_3).bind fun t437 => (some t437)) = some r:=by rw [if_pos rfl] at H;exact H
  clear H
  have H:=H1
  clear H1
  replace H:=Option.bind_eq_some_iff.mp H
  obtain ⟨t437,A50,H⟩:=H
  replace H : (some t437) = some r:=H
  have A5:=Aside0.mk A50
  clear A50
  obtain rfl:=Option.some.inj H
  go_enter Try.func13,Try.ntmps13
  go_wp2_with (first | ((with_reducible refine gate_dst (N:=3) rfl ?_);refine Up.bx 3 27 #[.string a1_0,.int .i64 a1_1,.slice A1_2 l1_2.length c1_2,.slice A1_3 l1_3.length c1_3] ?_;intro gb435 hg w6 hbox hb;have n0_:=Up.BB HB hb;have n1_:=Aside0.mk (hbox);have n2_:=Up.gw hg HB;have n3_:=Up.gw hg HB;clear HB;have HB:=n0_;have BK435:=n1_;have GW435:=n2_;have GE435:=n3_;clear n0_ n1_ n2_ n3_ hb hbox hg;have hcz7_0:=Up.c0 BK435;have hcz7_1:=Up.c1 BK435;have hcz7_2:=Up.c2 BK435;have hcz7_3:=Up.c3 BK435;have hfz7_0:=blk_frozen BK435.out 0;have hfz7_1:=blk_frozen BK435.out 1;have hfz7_2:=blk_frozen BK435.out 2;have hfz7_3:=blk_frozen BK435.out 3) | ((with_reducible refine gate_callee (f:=20) rfl ?_);refine Up.gl (some 7) Try.func20 #[.slice A0 l0.length c0,.agg #[.string a1_0,.int .i64 a1_1,.slice A1_2 l1_2.length c1_2,.slice A1_3 l1_3.length c1_3]] ?_;(with_reducible refine (spec_ValueOk.calls k _ _ l0 a1_0 a1_1 _ _ l1_2 _ _ l1_3 true _ ?side1 ?side2 ?side3 ?side4 ?side5 ?side6 A3.out).mono ?_);(case side1 => exact Up.Cx HR0 HB);(case side2 => exact HC0.out);(case side3 => exact Up.Cx HR1_2 HB);(case side4 => exact HC1_2.out);(case side5 => exact Up.Cx HR1_3 HB);(case side6 => exact HC1_3.out);rintro e w8 ⟨rfl,hb⟩;refine ⟨_,rfl,?_⟩;have n0_:=Up.KB BK435 hb;have n1_:=Aside0.mk (below_step (Up.Bx HB) hb);clear BK435 HB;have BK435:=n0_;have HB:=n1_;clear n0_ n1_;(try clear hb);(try clear hb2);(try clear hk);(try clear hi);have hcz9_0:=Up.c0 BK435;have hcz9_1:=Up.c1 BK435;have hcz9_2:=Up.c2 BK435;have hcz9_3:=Up.c3 BK435;have hfz9_0:=blk_frozen BK435.out 0;have hfz9_1:=blk_frozen BK435.out 1;have hfz9_2:=blk_frozen BK435.out 2;have hfz9_3:=blk_frozen BK435.out 3) | ((with_reducible refine gate_callee (f:=44) rfl ?_);refine Up.gl (some 10) Try.func44 #[.agg #[.string a1_0,.int .i64 a1_1,.slice A1_2 l1_2.length c1_2,.slice A1_3 l1_3.length c1_3]] ?_;(with_reducible refine (spec_l2Size.calls k a1_0 a1_1 _ _ l1_2 _ _ l1_3 t437 _ ?side1 ?side2 ?side3 ?side4 A5.out).mono ?_);(case side1 => exact Up.Cx HR1_2 HB);(case side2 => exact HC1_2.out);(case side3 => exact Up.Cx HR1_3 HB);(case side4 => exact HC1_3.out);rintro e w10 ⟨rfl,hb⟩;refine ⟨_,rfl,?_⟩;have n0_:=Up.KB BK435 hb;have n1_:=Aside0.mk (below_step (Up.Bx HB) hb);clear BK435 HB;have BK435:=n0_;have HB:=n1_;clear n0_ n1_;(try clear hb);(try clear hb2);(try clear hk);(try clear hi)))
  go_ret
  exact Up.e1 (Up.Bx HB)
 ·replace c4:=Bool.eq_false_iff.mpr c4
  subst c4
  have H1 : (some (-1)) = some r:=by rw [if_neg (show ¬ (false = true) by decide)] at H;exact H
  clear H
  have H:=H1
  clear H1
  obtain rfl:=Option.some.inj H
  go_enter Try.func13,Try.ntmps13
  go_wp2_with (first | ((with_reducible refine gate_dst (N:=3) rfl ?_);refine Up.bx 3 27 #[.string a1_0,.int .i64 a1_1,.slice A1_2 l1_2.length c1_2,.slice A1_3 l1_3.length c1_3] ?_;intro gb435 hg w11 hbox hb;have n0_:=Up.BB HB hb;have n1_:=Aside0.mk (hbox);have n2_:=Up.gw hg HB;have n3_:=Up.gw hg HB;clear HB;have HB:=n0_;have BK435:=n1_;have GW435:=n2_;have GE435:=n3_;clear n0_ n1_ n2_ n3_ hb hbox hg;have hcz12_0:=Up.c0 BK435;have hcz12_1:=Up.c1 BK435;have hcz12_2:=Up.c2 BK435;have hcz12_3:=Up.c3 BK435;have hfz12_0:=blk_frozen BK435.out 0;have hfz12_1:=blk_frozen BK435.out 1;have hfz12_2:=blk_frozen BK435.out 2;have hfz12_3:=blk_frozen BK435.out 3) | ((with_reducible refine gate_callee (f:=20) rfl ?_);refine Up.gl (some 7) Try.func20 #[.slice A0 l0.length c0,.agg #[.string a1_0,.int .i64 a1_1,.slice A1_2 l1_2.length c1_2,.slice A1_3 l1_3.length c1_3]] ?_;(with_reducible refine (spec_ValueOk.calls k _ _ l0 a1_0 a1_1 _ _ l1_2 _ _ l1_3 false _ ?side1 ?side2 ?side3 ?side4 ?side5 ?side6 A3.out).mono ?_);(case side1 => exact Up.Cx HR0 HB);(case side2 => exact HC0.out);(case side3 => exact Up.Cx HR1_2 HB);(case side4 => exact HC1_2.out);(case side5 => exact Up.Cx HR1_3 HB);(case side6 => exact HC1_3.out);rintro e w13 ⟨rfl,hb⟩;refine ⟨_,rfl,?_⟩;have n0_:=Up.KB BK435 hb;have n1_:=Aside0.mk (below_step (Up.Bx HB) hb);clear BK435 HB;have BK435:=n0_;have HB:=n1_;clear n0_ n1_;(try clear hb);(try clear hb2);(try clear hk);(try clear hi)))
  go_ret
  exact Up.e1 (Up.Bx HB)

/-! ### laws_FnValueSize: function 3 -/
def laws_FnValueSize.l0 : Nat → List (List (S113)) → Int → Int → Int → ByteArray → Int → List (S27) → List Int → Option (Bool)
 | 0,_,_,_,_,_,_,_,_ => none
 | k + 1,x3,x5,x7,x8,x450000,x450001,x450002,x450003 => if x8 < (x450002.length : Int) then (if 0 ≤ x8 then ((impl_ValueSize.f k x3 ((rd_T27 x450002 x8).f0) ((rd_T27 x450002 x8).f1) ((rd_T27 x450002 x8).f2) ((rd_T27 x450002 x8).f3)).bind fun t454 => (laws_FnValueSize.l0 k x3 x5 (wrap64 (x7 + t454)) (wrap64 (x8 + 1)) x450000 x450001 x450002 x450003)) else (none)) else (some (x7 == x5))
def laws_FnValueSize.f (k : Nat) (l0 : List Int) : Option (Bool):=if (l0.length : Int) > 1048576 then (some true) else ((spec_DrawValueSize.f k l0).bind fun bt438 => ((impl_ValueSize.f k bt438.1 bt438.2.1 bt438.2.2.1 bt438.2.2.2.1 bt438.2.2.2.2).bind fun t450 => ((spec_ValueSize.f k bt438.1 bt438.2.1 bt438.2.2.1 bt438.2.2.2.1 bt438.2.2.2.2).bind fun t451 => (if t450 = t451 then (if t450 < 0 then ((impl_ValueOk.f k bt438.1 bt438.2.1 bt438.2.2.1 bt438.2.2.2.1 bt438.2.2.2.2).bind fun t452 => (some (!t452))) else (laws_FnValueSize.l0 k bt438.1 t450 1 0 bt438.2.1 bt438.2.2.1 bt438.2.2.2.1 bt438.2.2.2.2)) else (some false)))))
theorem laws_FnValueSize.mono_l : ∀ k,(∀ y0 y1 y2 y3 y4 y5 y6 y7,LeO (laws_FnValueSize.l0 k y0 y1 y2 y3 y4 y5 y6 y7) (laws_FnValueSize.l0 (k + 1) y0 y1 y2 y3 y4 y5 y6 y7))
 | 0 => fun _ _ _ _ _ _ _ _ r h => by simp [laws_FnValueSize.l0] at h
 | k + 1 => by
  have ih0:=laws_FnValueSize.mono_l k
  ·intro y0 y1 y2 y3 y4 y5 y6 y7
   unfold laws_FnValueSize.l0
   repeat' first
   | (with_reducible exact ih0 _ _ _ _ _ _ _ _)
   | (with_reducible exact impl_ValueOk.mono _ _ _ _ _ _)
   | (with_reducible exact impl_ValueSize.mono _ _ _ _ _ _)
   | (with_reducible exact spec_DrawValueSize.mono _ _)
   | (with_reducible exact spec_ValueSize.mono _ _ _ _ _ _)
   | (with_reducible exact LeO.refl _)
   | (with_reducible exact LeO.none _)
   | (with_reducible refine LeO.ite ?_ ?_)
   | (with_reducible refine LeO.bind ?_ (fun _ => ?_))
   | exact ih0 _ _ _ _ _ _ _ _
   | exact impl_ValueOk.mono _ _ _ _ _ _
   | exact impl_ValueSize.mono _ _ _ _ _ _
   | exact spec_DrawValueSize.mono _ _
   | exact spec_ValueSize.mono _ _ _ _ _ _
   | exact LeO.none _
   | refine LeO.ite ?_ ?_
   | refine LeO.bind ?_ (fun _ => ?_)
theorem laws_FnValueSize.mono : ∀ a0 k,LeO (laws_FnValueSize.f k a0) (laws_FnValueSize.f (k + 1) a0):=by
 intro a0 k
 have ih0:=laws_FnValueSize.mono_l k
 unfold laws_FnValueSize.f
 repeat' first
   | (with_reducible exact ih0 _ _ _ _ _ _ _ _)
   | (with_reducible exact impl_ValueOk.mono _ _ _ _ _ _)
   | (with_reducible exact impl_ValueSize.mono _ _ _ _ _ _)
   | (with_reducible exact spec_DrawValueSize.mono _ _)
   | (with_reducible exact spec_ValueSize.mono _ _ _ _ _ _)
   | (with_reducible exact LeO.refl _)
   | (with_reducible exact LeO.none _)
   | (with_reducible refine LeO.ite ?_ ?_)
   | (with_reducible refine LeO.bind ?_ (fun _ => ?_))
   | exact ih0 _ _ _ _ _ _ _ _
   | exact impl_ValueOk.mono _ _ _ _ _ _
   | exact impl_ValueSize.mono _ _ _ _ _ _
   | exact spec_DrawValueSize.mono _ _
   | exact spec_ValueSize.mono _ _ _ _ _ _
   | exact LeO.none _
   | refine LeO.ite ?_ ?_
   | refine LeO.bind ?_ (fun _ => ?_)
set_option maxHeartbeats 8000000 in
set_option maxRecDepth 100000 in
theorem laws_FnValueSize.calls (k : Nat) (A0 : Option Addr) (c0 : Nat) (l0 : List Int) (r : Bool) (w : World) (hr0 : Kd.C (Kd.int .u8) w A0 l0.length l0) (hc0 : l0.length ≤ c0) (h : laws_FnValueSize.f k l0 = some r) :
  Calls Try.prog 3 #[.slice A0 l0.length c0] w fun e w' => e = .returned (.bool r) ∧ Below w.heap.size w w':=by
 have hu27:=Try.underlying27
 have HR0:=Aside0.mk hr0
 have HC0:=Aside0.mk hc0
 clear hr0 hc0
 have HB:=Aside0.mk (Below.refl w.heap.size w)
 have H : (if (l0.length : Int) > 1048576 then (some true) else ((spec_DrawValueSize.f k l0).bind fun bt438 => ((impl_ValueSize.f k bt438.1 bt438.2.1 bt438.2.2.1 bt438.2.2.2.1 bt438.2.2.2.2).bind fun t450 => ((spec_ValueSize.f k bt438.1 bt438.2.1 bt438.2.2.1 bt438.2.2.2.1 bt438.2.2.2.2).bind fun t451 => (if t450 = t451 then (if t450 < 0 then ((impl_ValueOk.f k bt438.1 bt438.2.1 bt438.2.2.1 bt438.2.2.2.1 bt438.2.2.2.2).bind fun t452 => (some (!t452))) else (laws_FnValueSize.l0 k bt438.1 t450 1 0 bt438.2.1 bt438.2.2.1 bt438.2.2.2.1 bt438.2.2.2.2)) else (some false)))))) = some r:=h
 clear h
 by_cases c2 : (l0.length : Int) > 1048576
 ·rw [if_pos c2] at H
  have c2b0 : decide (1048576 < (l0.length : Int)) = true:=decide_eq_true c2
  have c2b1 : decide (1048576 < l0.length) = true:=decide_eq_true (by omega)
  clear c2
  obtain rfl:=Option.some.inj H
  go_enter Try.func3,Try.ntmps3
  go_wp2
  go_ret
  exact Up.e1 (Up.Bup HB)
 ·rw [if_neg c2] at H
  have c2b0 : decide (1048576 < (l0.length : Int)) = false:=decide_eq_false c2
  have c2b1 : decide (1048576 < l0.length) = false:=decide_eq_false (by omega)
  clear c2
  replace H:=Option.bind_eq_some_iff.mp H
  obtain ⟨⟨t438,t441,t442,t443,t446⟩,A30,H⟩:=H
  replace H : ((impl_ValueSize.f k t438 t441 t442 t443 t446).bind fun t450 => ((spec_ValueSize.f k t438 t441 t442 t443 t446).bind fun t451 => (if t450 = t451 then (if t450 < 0 then ((impl_ValueOk.f k t438 t441 t442 t443 t446).bind fun t452 => (some (!t452))) else (laws_FnValueSize.l0 k t438 t450 1 0 t441 t442 t443 t446)) else (some false)))) = some r:=H
  have A3:=Aside0.mk A30
  clear A30
  replace H:=Option.bind_eq_some_iff.mp H
  obtain ⟨t450,A40,H⟩:=H
  replace H : ((spec_ValueSize.f k t438 t441 t442 t443 t446).bind fun t451 => (if t450 = t451 then (if t450 < 0 then ((impl_ValueOk.f k t438 t441 t442 t443 t446).bind fun t452 => (some (!t452))) else (laws_FnValueSize.l0 k t438 t450 1 0 t441 t442 t443 t446)) else (some false))) = some r:=H
  have A4:=Aside0.mk A40
  clear A40
  replace H:=Option.bind_eq_some_iff.mp H
  obtain ⟨t451,A50,H⟩:=H
  replace H : (if t450 = t451 then (if t450 < 0 then ((impl_ValueOk.f k t438 t441 t442 t443 t446).bind fun t452 => (some (!t452))) else (laws_FnValueSize.l0 k t438 t450 1 0 t441 t442 t443 t446)) else (some false)) = some r:=H
  have A5:=Aside0.mk A50
  clear A50
  by_cases c6 : t450 = t451
  ·rw [if_pos c6] at H
   have c6b0 : (t450 == t451) = true:=beq_iff_eq.mpr c6
   have c6b1 : (t450 != t451) = false:=bne_eq_false_iff_eq.mpr c6
   clear c6
   by_cases c7 : t450 < 0
   ·rw [if_pos c7] at H
    have c7b0 : decide (t450 < 0) = true:=decide_eq_true c7
    clear c7
    replace H:=Option.bind_eq_some_iff.mp H
    obtain ⟨t452,A80,H⟩:=H
    replace H : (some (!t452)) = some r:=H
    have A8:=Aside0.mk A80
    clear A80
    obtain rfl:=Option.some.inj H
    go_enter Try.func3,Try.ntmps3
    go_wp2_with (first | ((with_reducible refine gate_callee (f:=11) rfl ?_);refine Up.gl (some 14) Try.func11 #[.slice A0 l0.length c0] ?_;(with_reducible refine (spec_DrawValueSize.calls k _ _ l0 t438 t441 t442 t443 t446 _ ?side1 ?side2 A3.out).mono ?_);(case side1 => repeat (first | exact HR0.out | (with_reducible refine Kd.C_alloc ?_ _) | (with_reducible refine Kd.C_drewN ?_ _) | (with_reducible refine Kd.C_drew ?_)));(case side2 => exact HC0.out);rintro e w9 ⟨v439,v444,v447,rfl,ho0,ho1,ho2,hb⟩;refine ⟨_,rfl,?_⟩;have n0_:=Aside0.mk (Kd.N_lower (Kd.N_mono (ok':=fun k_ => True) ho0 (fun k_ hk_ => trivial)) (below_size (Up.Bup HB)));have n1_:=Aside0.mk (Kd.V_lower (Kd.V_mono (ok':=fun k_ => some k_ ≠ (v439 : Value).ownBlock) ho1 (fun k_ hk_ => hk_.2)) (below_size (Up.Bup HB)));have n2_:=Aside0.mk (Kd.V_lower (Kd.V_mono (ok':=fun k_ => some k_ ≠ (v439 : Value).ownBlock) ho2 (fun k_ hk_ => hk_.2)) (below_size (Up.Bup HB)));have n3_:=Up.BB HB hb;clear HB;have HO440:=n0_;have HO445:=n1_;have HO448:=n2_;have HB:=n3_;clear n0_ n1_ n2_ n3_;(try clear hb);(try clear hb2);(try clear hk);(try clear hi);(try clear ho0);(try clear ho1);(try clear ho2)) | ((with_reducible refine gate_dst (N:=4) rfl ?_);refine Up.bx 4 27 #[.string (⟨#[]⟩ : ByteArray),.int .i64 0,.slice none 0 0,.slice none 0 0] ?_;intro gb449 hg w10 hbox hb;have n0_:=Aside0.mk (Kd.N_below (Kd.N_elderB (Up.Nup HO440) gb449 (Nat.le_of_eq hg.symm)) hb);have n1_:=Aside0.mk (Kd.V_below (Kd.V_elderB (Up.Vup HO445) gb449 (Nat.le_of_eq hg.symm)) hb);have n2_:=Aside0.mk (Kd.V_below (Kd.V_elderB (Up.Vup HO448) gb449 (Nat.le_of_eq hg.symm)) hb);have n3_:=Up.BB HB hb;have n4_:=Aside0.mk (hbox);have n5_:=Up.gw hg HB;have n6_:=Up.gw hg HB;clear HO440 HO445 HO448 HB;have HO440:=n0_;have HO445:=n1_;have HO448:=n2_;have HB:=n3_;have BK449:=n4_;have GW449:=n5_;have GE449:=n6_;clear n0_ n1_ n2_ n3_ n4_ n5_ n6_ hb hbox hg;have hcz11_0:=Up.c0 BK449;have hcz11_1:=Up.c1 BK449;have hcz11_2:=Up.c2 BK449;have hcz11_3:=Up.c3 BK449;have hfz11_0:=blk_frozen BK449.out 0;have hfz11_1:=blk_frozen BK449.out 1;have hfz11_2:=blk_frozen BK449.out 2;have hfz11_3:=blk_frozen BK449.out 3;obtain ⟨Ao12,co12,eo12⟩:=Kd.V_slice HO445.out;subst eo12;obtain ⟨Ao13,co13,eo13⟩:=Kd.V_slice HO448.out;subst eo13;obtain ⟨Ao14,co14,eo14⟩:=Kd.N_slice HO440.out;subst eo14) | ((with_reducible refine gate_callee (f:=12) rfl ?_);refine Up.gl (some 19) Try.func12 #[.slice Ao14 t438.length co14,.agg #[.string t441,.int .i64 t442,.slice Ao12 t443.length co12,.slice Ao13 t446.length co13]] ?_;(with_reducible refine (impl_ValueSize.calls k _ _ t438 t441 t442 _ _ t443 _ _ t446 t450 _ ?side1 ?side2 ?side3 ?side4 ?side5 ?side6 A4.out).mono ?_);(case side1 => refine (Kd.N_reads' (e:=82) (base:=w.heap.size) (ok:=fun k_ => (True ∧ k_ ≠ gb449)) (n:=t438.length) (c:=co14) ?_).2.2;exact (by (with_reducible repeat (first | apply Kd.N_alloc | apply Kd.N_drewN | apply Kd.N_drew));exact (Kd.N_mono (Kd.N_far (p:=⟨gb449,3,none⟩) (Kd.N_far (p:=⟨gb449,2,none⟩) (Kd.N_far (p:=⟨gb449,1,none⟩) (Kd.N_far (p:=⟨gb449,0,none⟩) (Kd.N_mono HO440.out (fun k_ hk => (⟨hk,hk.2⟩ : _ ∧ k_ ≠ gb449))) (fun _ hk => hk.2) (.string t441)) (fun _ hk => hk.2) (.int .i64 t442)) (fun _ hk => hk.2) (.slice Ao12 t443.length co12)) (fun _ hk => hk.2) (.slice Ao13 t446.length co13)) (fun _ h_ => h_.1))));(case side2 => exact (Kd.N_reads' HO440.out).2.1);(case side3 => refine (Kd.V_reads' (e:=27) (base:=w.heap.size) (ok:=fun k_ => (some k_ ≠ (.slice Ao14 t438.length co14 : Value).ownBlock ∧ k_ ≠ gb449)) (n:=t443.length) (c:=co12) ?_).2.2;exact (by (with_reducible repeat (first | apply Kd.V_alloc | apply Kd.V_drewN | apply Kd.V_drew));exact (Kd.V_mono (Kd.V_far (p:=⟨gb449,3,none⟩) (Kd.V_far (p:=⟨gb449,2,none⟩) (Kd.V_far (p:=⟨gb449,1,none⟩) (Kd.V_far (p:=⟨gb449,0,none⟩) (Kd.V_mono HO445.out (fun k_ hk => (⟨hk,hk.2⟩ : _ ∧ k_ ≠ gb449))) (fun _ hk => hk.2) (.string t441)) (fun _ hk => hk.2) (.int .i64 t442)) (fun _ hk => hk.2) (.slice Ao12 t443.length co12)) (fun _ hk => hk.2) (.slice Ao13 t446.length co13)) (fun _ h_ => h_.1))));(case side4 => exact (Kd.V_reads' HO445.out).2.1);(case side5 => refine (Kd.V_reads' (e:=3) (base:=w.heap.size) (ok:=fun k_ => (some k_ ≠ (.slice Ao14 t438.length co14 : Value).ownBlock ∧ k_ ≠ gb449)) (n:=t446.length) (c:=co13) ?_).2.2;exact (by (with_reducible repeat (first | apply Kd.V_alloc | apply Kd.V_drewN | apply Kd.V_drew));exact (Kd.V_mono (Kd.V_far (p:=⟨gb449,3,none⟩) (Kd.V_far (p:=⟨gb449,2,none⟩) (Kd.V_far (p:=⟨gb449,1,none⟩) (Kd.V_far (p:=⟨gb449,0,none⟩) (Kd.V_mono HO448.out (fun k_ hk => (⟨hk,hk.2⟩ : _ ∧ k_ ≠ gb449))) (fun _ hk => hk.2) (.string t441)) (fun _ hk => hk.2) (.int .i64 t442)) (fun _ hk => hk.2) (.slice Ao12 t443.length co12)) (fun _ hk => hk.2) (.slice Ao13 t446.length co13)) (fun _ h_ => h_.1))));(case side6 => exact (Kd.V_reads' HO448.out).2.1);rintro e w15 ⟨rfl,hb⟩;refine ⟨_,rfl,?_⟩;have n0_:=Aside0.mk (Kd.N_below (by (with_reducible repeat (first | apply Kd.N_alloc | apply Kd.N_drewN | apply Kd.N_drew));exact (Kd.N_mono (Kd.N_far (p:=⟨gb449,3,none⟩) (Kd.N_far (p:=⟨gb449,2,none⟩) (Kd.N_far (p:=⟨gb449,1,none⟩) (Kd.N_far (p:=⟨gb449,0,none⟩) (Kd.N_mono HO440.out (fun k_ hk => (⟨hk,hk.2⟩ : _ ∧ k_ ≠ gb449))) (fun _ hk => hk.2) (.string t441)) (fun _ hk => hk.2) (.int .i64 t442)) (fun _ hk => hk.2) (.slice Ao12 t443.length co12)) (fun _ hk => hk.2) (.slice Ao13 t446.length co13)) (fun _ h_ => h_.1))) hb);have n1_:=Aside0.mk (Kd.V_below (by (with_reducible repeat (first | apply Kd.V_alloc | apply Kd.V_drewN | apply Kd.V_drew));exact (Kd.V_mono (Kd.V_far (p:=⟨gb449,3,none⟩) (Kd.V_far (p:=⟨gb449,2,none⟩) (Kd.V_far (p:=⟨gb449,1,none⟩) (Kd.V_far (p:=⟨gb449,0,none⟩) (Kd.V_mono HO445.out (fun k_ hk => (⟨hk,hk.2⟩ : _ ∧ k_ ≠ gb449))) (fun _ hk => hk.2) (.string t441)) (fun _ hk => hk.2) (.int .i64 t442)) (fun _ hk => hk.2) (.slice Ao12 t443.length co12)) (fun _ hk => hk.2) (.slice Ao13 t446.length co13)) (fun _ h_ => h_.1))) hb);have n2_:=Aside0.mk (Kd.V_below (by (with_reducible repeat (first | apply Kd.V_alloc | apply Kd.V_drewN | apply Kd.V_drew));exact (Kd.V_mono (Kd.V_far (p:=⟨gb449,3,none⟩) (Kd.V_far (p:=⟨gb449,2,none⟩) (Kd.V_far (p:=⟨gb449,1,none⟩) (Kd.V_far (p:=⟨gb449,0,none⟩) (Kd.V_mono HO448.out (fun k_ hk => (⟨hk,hk.2⟩ : _ ∧ k_ ≠ gb449))) (fun _ hk => hk.2) (.string t441)) (fun _ hk => hk.2) (.int .i64 t442)) (fun _ hk => hk.2) (.slice Ao12 t443.length co12)) (fun _ hk => hk.2) (.slice Ao13 t446.length co13)) (fun _ h_ => h_.1))) hb);have n3_:=Aside0.mk (blk_below (g:=gb449) (o:=.cells #[.string t441,.int .i64 t442,.slice Ao12 t443.length co12,.slice Ao13 t446.length co13] 27 (0,0)) (Up.Kx BK449) hb);have n4_:=Aside0.mk (below_step (Up.Bx HB) hb);clear HO440 HO445 HO448 BK449 HB;have HO440:=n0_;have HO445:=n1_;have HO448:=n2_;have BK449:=n3_;have HB:=n4_;clear n0_ n1_ n2_ n3_ n4_;(try clear hb);(try clear hb2);(try clear hk);(try clear hi);have hcz16_0:=Up.c0 BK449;have hcz16_1:=Up.c1 BK449;have hcz16_2:=Up.c2 BK449;have hcz16_3:=Up.c3 BK449;have hfz16_0:=blk_frozen BK449.out 0;have hfz16_1:=blk_frozen BK449.out 1;have hfz16_2:=blk_frozen BK449.out 2;have hfz16_3:=blk_frozen BK449.out 3) | ((with_reducible refine gate_callee (f:=13) rfl ?_);refine Up.gl (some 22) Try.func13 #[.slice Ao14 t438.length co14,.agg #[.string t441,.int .i64 t442,.slice Ao12 t443.length co12,.slice Ao13 t446.length co13]] ?_;(with_reducible refine (spec_ValueSize.calls k _ _ t438 t441 t442 _ _ t443 _ _ t446 t451 _ ?side1 ?side2 ?side3 ?side4 ?side5 ?side6 A5.out).mono ?_);(case side1 => repeat (first | exact (Kd.N_reads' HO440.out).2.2 | (with_reducible refine Kd.C_alloc ?_ _) | (with_reducible refine Kd.C_drewN ?_ _) | (with_reducible refine Kd.C_drew ?_)));(case side2 => exact (Kd.N_reads' HO440.out).2.1);(case side3 => repeat (first | exact (Kd.V_reads' HO445.out).2.2 | (with_reducible refine Kd.C_alloc ?_ _) | (with_reducible refine Kd.C_drewN ?_ _) | (with_reducible refine Kd.C_drew ?_)));(case side4 => exact (Kd.V_reads' HO445.out).2.1);(case side5 => repeat (first | exact (Kd.V_reads' HO448.out).2.2 | (with_reducible refine Kd.C_alloc ?_ _) | (with_reducible refine Kd.C_drewN ?_ _) | (with_reducible refine Kd.C_drew ?_)));(case side6 => exact (Kd.V_reads' HO448.out).2.1);rintro e w17 ⟨rfl,hb⟩;refine ⟨_,rfl,?_⟩;have n0_:=Up.NB HO440 hb;have n1_:=Up.VB HO445 hb;have n2_:=Up.VB HO448 hb;have n3_:=Up.KB BK449 hb;have n4_:=Aside0.mk (below_step (Up.Bx HB) hb);clear HO440 HO445 HO448 BK449 HB;have HO440:=n0_;have HO445:=n1_;have HO448:=n2_;have BK449:=n3_;have HB:=n4_;clear n0_ n1_ n2_ n3_ n4_;(try clear hb);(try clear hb2);(try clear hk);(try clear hi);have hcz18_0:=Up.c0 BK449;have hcz18_1:=Up.c1 BK449;have hcz18_2:=Up.c2 BK449;have hcz18_3:=Up.c3 BK449;have hfz18_0:=blk_frozen BK449.out 0;have hfz18_1:=blk_frozen BK449.out 1;have hfz18_2:=blk_frozen BK449.out 2;have hfz18_3:=blk_frozen BK449.out 3) | ((with_reducible refine gate_callee (f:=14) rfl ?_);refine Up.gl (some 30) Try.func14 #[.slice Ao14 t438.length co14,.agg #[.string t441,.int .i64 t442,.slice Ao12 t443.length co12,.slice Ao13 t446.length co13]] ?_;(with_reducible refine (impl_ValueOk.calls k _ _ t438 t441 t442 _ _ t443 _ _ t446 t452 _ ?side1 ?side2 ?side3 ?side4 ?side5 ?side6 A8.out).mono ?_);(case side1 => repeat (first | exact (Kd.N_reads' HO440.out).2.2 | (with_reducible refine Kd.C_alloc ?_ _) | (with_reducible refine Kd.C_drewN ?_ _) | (with_reducible refine Kd.C_drew ?_)));(case side2 => exact (Kd.N_reads' HO440.out).2.1);(case side3 => repeat (first | exact (Kd.V_reads' HO445.out).2.2 | (with_reducible refine Kd.C_alloc ?_ _) | (with_reducible refine Kd.C_drewN ?_ _) | (with_reducible refine Kd.C_drew ?_)));(case side4 => exact (Kd.V_reads' HO445.out).2.1);(case side5 => repeat (first | exact (Kd.V_reads' HO448.out).2.2 | (with_reducible refine Kd.C_alloc ?_ _) | (with_reducible refine Kd.C_drewN ?_ _) | (with_reducible refine Kd.C_drew ?_)));(case side6 => exact (Kd.V_reads' HO448.out).2.1);rintro e w19 ⟨rfl,hb⟩;refine ⟨_,rfl,?_⟩;have n0_:=Up.NB HO440 hb;have n1_:=Up.VB HO445 hb;have n2_:=Up.VB HO448 hb;have n3_:=Up.KB BK449 hb;have n4_:=Aside0.mk (below_step (Up.Bx HB) hb);clear HO440 HO445 HO448 BK449 HB;have HO440:=n0_;have HO445:=n1_;have HO448:=n2_;have BK449:=n3_;have HB:=n4_;clear n0_ n1_ n2_ n3_ n4_;(try clear hb);(try clear hb2);(try clear hk);(try clear hi)))
    go_ret
    exact Up.e1 (Up.Bx HB)
   ·rw [if_neg c7] at H
    have c7b0 : decide (t450 < 0) = false:=decide_eq_false c7
    clear c7
    have H':=Aside0.mk H
    clear H
    go_enter Try.func3,Try.ntmps3
    go_wp2_with (first | ((with_reducible refine gate_callee (f:=11) rfl ?_);refine Up.gl (some 14) Try.func11 #[.slice A0 l0.length c0] ?_;(with_reducible refine (spec_DrawValueSize.calls k _ _ l0 t438 t441 t442 t443 t446 _ ?side1 ?side2 A3.out).mono ?_);(case side1 => repeat (first | exact HR0.out | (with_reducible refine Kd.C_alloc ?_ _) | (with_reducible refine Kd.C_drewN ?_ _) | (with_reducible refine Kd.C_drew ?_)));(case side2 => exact HC0.out);rintro e w20 ⟨v439,v444,v447,rfl,ho0,ho1,ho2,hb⟩;refine ⟨_,rfl,?_⟩;have n0_:=Aside0.mk (Kd.N_lower (Kd.N_mono (ok':=fun k_ => True) ho0 (fun k_ hk_ => trivial)) (below_size (Up.Bup HB)));have n1_:=Aside0.mk (Kd.V_lower (Kd.V_mono (ok':=fun k_ => some k_ ≠ (v439 : Value).ownBlock) ho1 (fun k_ hk_ => hk_.2)) (below_size (Up.Bup HB)));have n2_:=Aside0.mk (Kd.V_lower (Kd.V_mono (ok':=fun k_ => some k_ ≠ (v439 : Value).ownBlock) ho2 (fun k_ hk_ => hk_.2)) (below_size (Up.Bup HB)));have n3_:=Up.BB HB hb;clear HB;have HO440:=n0_;have HO445:=n1_;have HO448:=n2_;have HB:=n3_;clear n0_ n1_ n2_ n3_;(try clear hb);(try clear hb2);(try clear hk);(try clear hi);(try clear ho0);(try clear ho1);(try clear ho2)) | ((with_reducible refine gate_dst (N:=4) rfl ?_);refine Up.bx 4 27 #[.string (⟨#[]⟩ : ByteArray),.int .i64 0,.slice none 0 0,.slice none 0 0] ?_;intro gb449 hg w21 hbox hb;have n0_:=Aside0.mk (Kd.N_below (Kd.N_elderB (Up.Nup HO440) gb449 (Nat.le_of_eq hg.symm)) hb);have n1_:=Aside0.mk (Kd.V_below (Kd.V_elderB (Up.Vup HO445) gb449 (Nat.le_of_eq hg.symm)) hb);have n2_:=Aside0.mk (Kd.V_below (Kd.V_elderB (Up.Vup HO448) gb449 (Nat.le_of_eq hg.symm)) hb);have n3_:=Up.BB HB hb;have n4_:=Aside0.mk (hbox);have n5_:=Up.gw hg HB;have n6_:=Up.gw hg HB;clear HO440 HO445 HO448 HB;have HO440:=n0_;have HO445:=n1_;have HO448:=n2_;have HB:=n3_;have BK449:=n4_;have GW449:=n5_;have GE449:=n6_;clear n0_ n1_ n2_ n3_ n4_ n5_ n6_ hb hbox hg;have hcz22_0:=Up.c0 BK449;have hcz22_1:=Up.c1 BK449;have hcz22_2:=Up.c2 BK449;have hcz22_3:=Up.c3 BK449;have hfz22_0:=blk_frozen BK449.out 0;have hfz22_1:=blk_frozen BK449.out 1;have hfz22_2:=blk_frozen BK449.out 2;have hfz22_3:=blk_frozen BK449.out 3;obtain ⟨Ao23,co23,eo23⟩:=Kd.V_slice HO445.out;subst eo23;obtain ⟨Ao24,co24,eo24⟩:=Kd.V_slice HO448.out;subst eo24;obtain ⟨Ao25,co25,eo25⟩:=Kd.N_slice HO440.out;subst eo25) | ((with_reducible refine gate_callee (f:=12) rfl ?_);refine Up.gl (some 19) Try.func12 #[.slice Ao25 t438.length co25,.agg #[.string t441,.int .i64 t442,.slice Ao23 t443.length co23,.slice Ao24 t446.length co24]] ?_;(with_reducible refine (impl_ValueSize.calls k _ _ t438 t441 t442 _ _ t443 _ _ t446 t450 _ ?side1 ?side2 ?side3 ?side4 ?side5 ?side6 A4.out).mono ?_);(case side1 => refine (Kd.N_reads' (e:=82) (base:=w.heap.size) (ok:=fun k_ => (True ∧ k_ ≠ gb449)) (n:=t438.length) (c:=co25) ?_).2.2;exact (by (with_reducible repeat (first | apply Kd.N_alloc | apply Kd.N_drewN | apply Kd.N_drew));exact (Kd.N_mono (Kd.N_far (p:=⟨gb449,3,none⟩) (Kd.N_far (p:=⟨gb449,2,none⟩) (Kd.N_far (p:=⟨gb449,1,none⟩) (Kd.N_far (p:=⟨gb449,0,none⟩) (Kd.N_mono HO440.out (fun k_ hk => (⟨hk,hk.2⟩ : _ ∧ k_ ≠ gb449))) (fun _ hk => hk.2) (.string t441)) (fun _ hk => hk.2) (.int .i64 t442)) (fun _ hk => hk.2) (.slice Ao23 t443.length co23)) (fun _ hk => hk.2) (.slice Ao24 t446.length co24)) (fun _ h_ => h_.1))));(case side2 => exact (Kd.N_reads' HO440.out).2.1);(case side3 => refine (Kd.V_reads' (e:=27) (base:=w.heap.size) (ok:=fun k_ => (some k_ ≠ (.slice Ao25 t438.length co25 : Value).ownBlock ∧ k_ ≠ gb449)) (n:=t443.length) (c:=co23) ?_).2.2;exact (by (with_reducible repeat (first | apply Kd.V_alloc | apply Kd.V_drewN | apply Kd.V_drew));exact (Kd.V_mono (Kd.V_far (p:=⟨gb449,3,none⟩) (Kd.V_far (p:=⟨gb449,2,none⟩) (Kd.V_far (p:=⟨gb449,1,none⟩) (Kd.V_far (p:=⟨gb449,0,none⟩) (Kd.V_mono HO445.out (fun k_ hk => (⟨hk,hk.2⟩ : _ ∧ k_ ≠ gb449))) (fun _ hk => hk.2) (.string t441)) (fun _ hk => hk.2) (.int .i64 t442)) (fun _ hk => hk.2) (.slice Ao23 t443.length co23)) (fun _ hk => hk.2) (.slice Ao24 t446.length co24)) (fun _ h_ => h_.1))));(case side4 => exact (Kd.V_reads' HO445.out).2.1);(case side5 => refine (Kd.V_reads' (e:=3) (base:=w.heap.size) (ok:=fun k_ => (some k_ ≠ (.slice Ao25 t438.length co25 : Value).ownBlock ∧ k_ ≠ gb449)) (n:=t446.length) (c:=co24) ?_).2.2;exact (by (with_reducible repeat (first | apply Kd.V_alloc | apply Kd.V_drewN | apply Kd.V_drew));exact (Kd.V_mono (Kd.V_far (p:=⟨gb449,3,none⟩) (Kd.V_far (p:=⟨gb449,2,none⟩) (Kd.V_far (p:=⟨gb449,1,none⟩) (Kd.V_far (p:=⟨gb449,0,none⟩) (Kd.V_mono HO448.out (fun k_ hk => (⟨hk,hk.2⟩ : _ ∧ k_ ≠ gb449))) (fun _ hk => hk.2) (.string t441)) (fun _ hk => hk.2) (.int .i64 t442)) (fun _ hk => hk.2) (.slice Ao23 t443.length co23)) (fun _ hk => hk.2) (.slice Ao24 t446.length co24)) (fun _ h_ => h_.1))));(case side6 => exact (Kd.V_reads' HO448.out).2.1);rintro e w26 ⟨rfl,hb⟩;refine ⟨_,rfl,?_⟩;have n0_:=Aside0.mk (Kd.N_below (by (with_reducible repeat (first | apply Kd.N_alloc | apply Kd.N_drewN | apply Kd.N_drew));exact (Kd.N_mono (Kd.N_far (p:=⟨gb449,3,none⟩) (Kd.N_far (p:=⟨gb449,2,none⟩) (Kd.N_far (p:=⟨gb449,1,none⟩) (Kd.N_far (p:=⟨gb449,0,none⟩) (Kd.N_mono HO440.out (fun k_ hk => (⟨hk,hk.2⟩ : _ ∧ k_ ≠ gb449))) (fun _ hk => hk.2) (.string t441)) (fun _ hk => hk.2) (.int .i64 t442)) (fun _ hk => hk.2) (.slice Ao23 t443.length co23)) (fun _ hk => hk.2) (.slice Ao24 t446.length co24)) (fun _ h_ => h_.1))) hb);have n1_:=Aside0.mk (Kd.V_below (by (with_reducible repeat (first | apply Kd.V_alloc | apply Kd.V_drewN | apply Kd.V_drew));exact (Kd.V_mono (Kd.V_far (p:=⟨gb449,3,none⟩) (Kd.V_far (p:=⟨gb449,2,none⟩) (Kd.V_far (p:=⟨gb449,1,none⟩) (Kd.V_far (p:=⟨gb449,0,none⟩) (Kd.V_mono HO445.out (fun k_ hk => (⟨hk,hk.2⟩ : _ ∧ k_ ≠ gb449))) (fun _ hk => hk.2) (.string t441)) (fun _ hk => hk.2) (.int .i64 t442)) (fun _ hk => hk.2) (.slice Ao23 t443.length co23)) (fun _ hk => hk.2) (.slice Ao24 t446.length co24)) (fun _ h_ => h_.1))) hb);have n2_:=Aside0.mk (Kd.V_below (by (with_reducible repeat (first | apply Kd.V_alloc | apply Kd.V_drewN | apply Kd.V_drew));exact (Kd.V_mono (Kd.V_far (p:=⟨gb449,3,none⟩) (Kd.V_far (p:=⟨gb449,2,none⟩) (Kd.V_far (p:=⟨gb449,1,none⟩) (Kd.V_far (p:=⟨gb449,0,none⟩) (Kd.V_mono HO448.out (fun k_ hk => (⟨hk,hk.2⟩ : _ ∧ k_ ≠ gb449))) (fun _ hk => hk.2) (.string t441)) (fun _ hk => hk.2) (.int .i64 t442)) (fun _ hk => hk.2) (.slice Ao23 t443.length co23)) (fun _ hk => hk.2) (.slice Ao24 t446.length co24)) (fun _ h_ => h_.1))) hb);have n3_:=Aside0.mk (blk_below (g:=gb449) (o:=.cells #[.string t441,.int .i64 t442,.slice Ao23 t443.length co23,.slice Ao24 t446.length co24] 27 (0,0)) (Up.Kx BK449) hb);have n4_:=Aside0.mk (below_step (Up.Bx HB) hb);clear HO440 HO445 HO448 BK449 HB;have HO440:=n0_;have HO445:=n1_;have HO448:=n2_;have BK449:=n3_;have HB:=n4_;clear n0_ n1_ n2_ n3_ n4_;(try clear hb);(try clear hb2);(try clear hk);(try clear hi);have hcz27_0:=Up.c0 BK449;have hcz27_1:=Up.c1 BK449;have hcz27_2:=Up.c2 BK449;have hcz27_3:=Up.c3 BK449;have hfz27_0:=blk_frozen BK449.out 0;have hfz27_1:=blk_frozen BK449.out 1;have hfz27_2:=blk_frozen BK449.out 2;have hfz27_3:=blk_frozen BK449.out 3) | ((with_reducible refine gate_callee (f:=13) rfl ?_);refine Up.gl (some 22) Try.func13 #[.slice Ao25 t438.length co25,.agg #[.string t441,.int .i64 t442,.slice Ao23 t443.length co23,.slice Ao24 t446.length co24]] ?_;(with_reducible refine (spec_ValueSize.calls k _ _ t438 t441 t442 _ _ t443 _ _ t446 t451 _ ?side1 ?side2 ?side3 ?side4 ?side5 ?side6 A5.out).mono ?_);(case side1 => repeat (first | exact (Kd.N_reads' HO440.out).2.2 | (with_reducible refine Kd.C_alloc ?_ _) | (with_reducible refine Kd.C_drewN ?_ _) | (with_reducible refine Kd.C_drew ?_)));(case side2 => exact (Kd.N_reads' HO440.out).2.1);(case side3 => repeat (first | exact (Kd.V_reads' HO445.out).2.2 | (with_reducible refine Kd.C_alloc ?_ _) | (with_reducible refine Kd.C_drewN ?_ _) | (with_reducible refine Kd.C_drew ?_)));(case side4 => exact (Kd.V_reads' HO445.out).2.1);(case side5 => repeat (first | exact (Kd.V_reads' HO448.out).2.2 | (with_reducible refine Kd.C_alloc ?_ _) | (with_reducible refine Kd.C_drewN ?_ _) | (with_reducible refine Kd.C_drew ?_)));(case side6 => exact (Kd.V_reads' HO448.out).2.1);rintro e w28 ⟨rfl,hb⟩;refine ⟨_,rfl,?_⟩;have n0_:=Up.NB HO440 hb;have n1_:=Up.VB HO445 hb;have n2_:=Up.VB HO448 hb;have n3_:=Up.KB BK449 hb;have n4_:=Aside0.mk (below_step (Up.Bx HB) hb);clear HO440 HO445 HO448 BK449 HB;have HO440:=n0_;have HO445:=n1_;have HO448:=n2_;have BK449:=n3_;have HB:=n4_;clear n0_ n1_ n2_ n3_ n4_;(try clear hb);(try clear hb2);(try clear hk);(try clear hi)))
    go_loopg [7,8] k (fun kq v7 v8 w' => ∃ (x7_1 : Int) (x8_1 : Int),v7 = .int .i64 x7_1 ∧ v8 = .int .i64 x8_1 ∧ Aside0 (laws_FnValueSize.l0 kq t438 t450 x7_1 x8_1 t441 t442 t443 t446 = some r) ∧ Aside0 (kq ≤ k) ∧ Aside0 (Kd.N (Kd.slice 113 k113) 82 w' w.heap.size (fun k_ => k_ ≠ gb449) (.slice Ao25 t438.length co25) t438) ∧ Aside0 (Kd.V k27 27 w' w.heap.size (fun k_ => some k_ ≠ ((.slice Ao25 t438.length co25) : Value).ownBlock ∧ k_ ≠ gb449) (.slice Ao23 t443.length co23) t443) ∧ Aside0 (Kd.V (Kd.int .i64) 3 w' w.heap.size (fun k_ => some k_ ≠ ((.slice Ao25 t438.length co25) : Value).ownBlock ∧ k_ ≠ gb449) (.slice Ao24 t446.length co24) t446) ∧ Aside0 (w'.heap[gb449]? = some (.cells #[.string t441,.int .i64 t442,(.slice Ao23 t443.length co23),(.slice Ao24 t446.length co24)] 27 (0,0))) ∧ Aside0 (Below w.heap.size w w'))
    case atStart => exact ⟨(1),(0),(by first | rfl | (simp;done) | (simp [*];done)),(by first | rfl | (simp;done) | (simp [*];done)),H',⟨Nat.le_refl _⟩,⟨by (with_reducible repeat (first | apply Kd.N_alloc | apply Kd.N_drewN | apply Kd.N_drew));exact Kd.N_mono HO440.out (fun _ hk => hk.2)⟩,⟨Up.Vup HO445⟩,⟨Up.Vup HO448⟩,⟨by (with_reducible repeat (first | refine blk_drewN ?_ _ | refine blk_drew ?_ | refine blk_alloc ?_ _));exact BK449.out⟩,⟨Up.Bx HB⟩⟩
    case round =>
     clear H'
     try clear c1
     try clear c2
     try clear c2b0
     try clear c2b1
     try clear p2
     try clear c3
     try clear c6
     try clear c6b0
     try clear c6b1
     try clear c7
     try clear c7b0
     try clear c11
     try clear c12
     try clear c13
     try clear c14
     try clear hcz11_0
     try clear hcz11_1
     try clear hcz11_2
     try clear hcz11_3
     try clear hcz16_0
     try clear hcz16_1
     try clear hcz16_2
     try clear hcz16_3
     try clear hcz18_0
     try clear hcz18_1
     try clear hcz18_2
     try clear hcz18_3
     try clear hcz22_0
     try clear hcz22_1
     try clear hcz22_2
     try clear hcz22_3
     try clear hcz27_0
     try clear hcz27_1
     try clear hcz27_2
     try clear hcz27_3
     try clear hfz11_0
     try clear hfz11_1
     try clear hfz11_2
     try clear hfz11_3
     try clear hfz16_0
     try clear hfz16_1
     try clear hfz16_2
     try clear hfz16_3
     try clear hfz18_0
     try clear hfz18_1
     try clear hfz18_2
     try clear hfz18_3
     try clear hfz22_0
     try clear hfz22_1
     try clear hfz22_2
     try clear hfz22_3
     try clear hfz27_0
     try clear hfz27_1
     try clear hfz27_2
     try clear hfz27_3
     obtain ⟨x7_1,x8_1,rfl,rfl,HA,HK1,HO_3,HO_450002,HO_450003,BK449,HB⟩:=hrel
     cases gk with
     | zero => exact absurd HA.out (by simp [laws_FnValueSize.l0])
     | succ k1 =>
      have H:=HA.out
      clear HA
      simp only [laws_FnValueSize.l0] at H
      by_cases c29 : x8_1 < (t443.length : Int)
      ·rw [if_pos c29] at H
       have c29b0 : decide (x8_1 < (t443.length : Int)) = true:=decide_eq_true c29
       clear c29
       by_cases c30 : 0 ≤ x8_1
       ·rw [if_pos c30] at H
        have c30b0 : decide (0 ≤ x8_1) = true:=decide_eq_true c30
        clear c30
        replace H:=Option.bind_eq_some_iff.mp H
        obtain ⟨t454,A310,H⟩:=H
        replace H : (laws_FnValueSize.l0 k1 t438 t450 (wrap64 (x7_1 + t454)) (wrap64 (x8_1 + 1)) t441 t442 t443 t446) = some r:=H
        have A31:=Aside0.mk A310
        clear A310
        have H':=Aside0.mk H
        clear H
        have hcz32_0:=Up.c0 BK449
        have hcz32_1:=Up.c1 BK449
        have hcz32_2:=Up.c2 BK449
        have hcz32_3:=Up.c3 BK449
        have hfz32_0:=blk_frozen BK449.out 0
        have hfz32_1:=blk_frozen BK449.out 1
        have hfz32_2:=blk_frozen BK449.out 2
        have hfz32_3:=blk_frozen BK449.out 3
        have p453 : 0 ≤ (x8_1 : Int):=Up.od
        have q453 : x8_1 < (t443.length : Int):=Up.od
        obtain ⟨ad453,A453_2,c453_2,A453_3,c453_3,e453,hx453_0,hx453_1,hx453_2,hx453_3,hl453_2,hi453_2,hl453_3,hi453_3⟩:=at_T27 (Kd.V_reads' HO_450002.out).2.2 x8_1 p453 q453
        cases e453
        obtain ⟨ce453,hce453,hMe453,hcc453⟩:=Kd.V_get HO_450002.out z27 x8_1 p453 (by first | exact q453 | exact Up.od | (have e_:=(Kd.V_reads' HO_450002.out).1;omega))
        obtain ⟨ua453_2,uc453_2,ua453_3,uc453_3,rfl,ul453_2,ge453_2,ul453_3,ge453_3⟩:=k27_openF hMe453
        have hv453_2:=hcc453 2 _ rfl
        rw [add_field _ _ 2 (by omega)] at hv453_2
        replace hv453_2:=Option.some.inj (hv453_2.symm.trans hx453_2)
        injection hv453_2 with hva_ hvn_ hvc_
        rw [hva_] at ge453_2
        rw [hvc_] at ul453_2
        have HL453_2:=Aside0.mk (show Kd.V k27 27 _ w.heap.size _ _ ((rd_T27 t443 x8_1).f2) from Kd.V_mk ul453_2 ge453_2)
        clear hva_ hvn_ hvc_ ge453_2 ul453_2
        have hv453_3:=hcc453 3 _ rfl
        rw [add_field _ _ 3 (by omega)] at hv453_3
        replace hv453_3:=Option.some.inj (hv453_3.symm.trans hx453_3)
        injection hv453_3 with hva_ hvn_ hvc_
        rw [hva_] at ge453_3
        rw [hvc_] at ul453_3
        have HL453_3:=Aside0.mk (show Kd.V (Kd.int .i64) 3 _ w.heap.size _ _ ((rd_T27 t443 x8_1).f3) from Kd.V_mk ul453_3 ge453_3)
        clear hva_ hvn_ hvc_ ge453_3 ul453_3
        clear hcc453 hce453
        have HR453_2:=Aside0.mk hi453_2
        have HC453_2:=Aside0.mk hl453_2
        clear hi453_2 hl453_2
        have HR453_3:=Aside0.mk hi453_3
        have HC453_3:=Aside0.mk hl453_3
        clear hi453_3 hl453_3
        replace p453:=eq_true p453
        replace q453:=eq_true q453
        go_wp2_with (first | ((with_reducible refine gate_callee (f:=12) rfl ?_);refine Up.gl (some 46) Try.func12 #[.slice Ao25 t438.length co25,.agg #[.string ((rd_T27 t443 x8_1).f0),.int .i64 ((rd_T27 t443 x8_1).f1),.slice A453_2 ((rd_T27 t443 x8_1).f2).length c453_2,.slice A453_3 ((rd_T27 t443 x8_1).f3).length c453_3]] ?_;(with_reducible refine (impl_ValueSize.calls k1 _ _ t438 ((rd_T27 t443 x8_1).f0) ((rd_T27 t443 x8_1).f1) _ _ ((rd_T27 t443 x8_1).f2) _ _ ((rd_T27 t443 x8_1).f3) t454 _ ?side1 ?side2 ?side3 ?side4 ?side5 ?side6 A31.out).mono ?_);(case side1 => repeat (first | exact (Kd.N_reads' HO_3.out).2.2 | (with_reducible refine Kd.C_alloc ?_ _) | (with_reducible refine Kd.C_drewN ?_ _) | (with_reducible refine Kd.C_drew ?_)));(case side2 => exact (Kd.N_reads' HO_3.out).2.1);(case side3 => repeat (first | exact (by repeat (first | (with_reducible exact HR453_2.out) | (with_reducible refine Kd.C_alloc ?_ _) | (with_reducible refine Kd.C_drewN ?_ _) | (with_reducible refine Kd.C_drew ?_) | exact HR453_2.out)) | (with_reducible refine Kd.C_alloc ?_ _) | (with_reducible refine Kd.C_drewN ?_ _) | (with_reducible refine Kd.C_drew ?_)));(case side4 => exact HC453_2.out);(case side5 => repeat (first | exact (by repeat (first | (with_reducible exact HR453_3.out) | (with_reducible refine Kd.C_alloc ?_ _) | (with_reducible refine Kd.C_drewN ?_ _) | (with_reducible refine Kd.C_drew ?_) | exact HR453_3.out)) | (with_reducible refine Kd.C_alloc ?_ _) | (with_reducible refine Kd.C_drewN ?_ _) | (with_reducible refine Kd.C_drew ?_)));(case side6 => exact HC453_3.out);rintro e w33 ⟨rfl,hb⟩;refine ⟨_,rfl,?_⟩;have n0_:=Up.NB HO_3 hb;have n1_:=Up.VB HO_450002 hb;have n2_:=Up.VB HO_450003 hb;have n3_:=Up.VB HL453_2 hb;have n4_:=Up.VB HL453_3 hb;have n5_:=Up.KB BK449 hb;have n6_:=Aside0.mk (Kd.C_below (by repeat (first | (with_reducible exact HR453_2.out) | (with_reducible refine Kd.C_alloc ?_ _) | (with_reducible refine Kd.C_drewN ?_ _) | (with_reducible refine Kd.C_drew ?_) | exact HR453_2.out)) hb);have n7_:=Aside0.mk (Kd.C_below (by repeat (first | (with_reducible exact HR453_3.out) | (with_reducible refine Kd.C_alloc ?_ _) | (with_reducible refine Kd.C_drewN ?_ _) | (with_reducible refine Kd.C_drew ?_) | exact HR453_3.out)) hb);have n8_:=Aside0.mk (below_step (Up.Bx HB) hb);clear HO_3 HO_450002 HO_450003 HL453_2 HL453_3 BK449 HR453_2 HR453_3 HB;have HO_3:=n0_;have HO_450002:=n1_;have HO_450003:=n2_;have HL453_2:=n3_;have HL453_3:=n4_;have BK449:=n5_;have HR453_2:=n6_;have HR453_3:=n7_;have HB:=n8_;clear n0_ n1_ n2_ n3_ n4_ n5_ n6_ n7_ n8_;(try clear hb);(try clear hb2);(try clear hk);(try clear hi)))
        go_roundg k1
        case measure => have:=HK1.out;omega
        case rel => exact ⟨(wrap64 (x7_1 + t454)),(wrap64 (x8_1 + 1)),(by first | rfl | (simp;done) | (simp [*];done)),(by first | rfl | (simp;done) | (simp [*];done)),H',⟨by have:=HK1.out;omega⟩,⟨Up.Nup HO_3⟩,⟨Up.Vup HO_450002⟩,⟨Up.Vup HO_450003⟩,⟨by (with_reducible repeat (first | refine blk_drewN ?_ _ | refine blk_drew ?_ | refine blk_alloc ?_ _));exact BK449.out⟩,⟨Up.Bx HB⟩⟩
       ·rw [if_neg c30] at H
        exact absurd H (by simp)
      ·rw [if_neg c29] at H
       have c29b0 : decide (x8_1 < (t443.length : Int)) = false:=decide_eq_false c29
       clear c29
       obtain rfl:=Option.some.inj H
       have hcz34_0:=Up.c0 BK449
       have hcz34_1:=Up.c1 BK449
       have hcz34_2:=Up.c2 BK449
       have hcz34_3:=Up.c3 BK449
       have hfz34_0:=blk_frozen BK449.out 0
       have hfz34_1:=blk_frozen BK449.out 1
       have hfz34_2:=blk_frozen BK449.out 2
       have hfz34_3:=blk_frozen BK449.out 3
       go_wp2
       go_ret
       exact Up.e1 (Up.Bx HB)
  ·rw [if_neg c6] at H
   have c6b0 : (t450 == t451) = false:=beq_eq_false_iff_ne.mpr c6
   have c6b1 : (t450 != t451) = true:=bne_iff_ne.mpr c6
   obtain rfl:=Option.some.inj H
   go_enter Try.func3,Try.ntmps3
   go_wp2_with (first | ((with_reducible refine gate_callee (f:=11) rfl ?_);refine Up.gl (some 14) Try.func11 #[.slice A0 l0.length c0] ?_;(with_reducible refine (spec_DrawValueSize.calls k _ _ l0 t438 t441 t442 t443 t446 _ ?side1 ?side2 A3.out).mono ?_);(case side1 => repeat (first | exact HR0.out | (with_reducible refine Kd.C_alloc ?_ _) | (with_reducible refine Kd.C_drewN ?_ _) | (with_reducible refine Kd.C_drew ?_)));(case side2 => exact HC0.out);rintro e w35 ⟨v439,v444,v447,rfl,ho0,ho1,ho2,hb⟩;refine ⟨_,rfl,?_⟩;have n0_:=Aside0.mk (Kd.N_lower (Kd.N_mono (ok':=fun k_ => True) ho0 (fun k_ hk_ => trivial)) (below_size (Up.Bup HB)));have n1_:=Aside0.mk (Kd.V_lower (Kd.V_mono (ok':=fun k_ => some k_ ≠ (v439 : Value).ownBlock) ho1 (fun k_ hk_ => hk_.2)) (below_size (Up.Bup HB)));have n2_:=Aside0.mk (Kd.V_lower (Kd.V_mono (ok':=fun k_ => some k_ ≠ (v439 : Value).ownBlock) ho2 (fun k_ hk_ => hk_.2)) (below_size (Up.Bup HB)));have n3_:=Up.BB HB hb;clear HB;have HO440:=n0_;have HO445:=n1_;have HO448:=n2_;have HB:=n3_;clear n0_ n1_ n2_ n3_;(try clear hb);(try clear hb2);(try clear hk);(try clear hi);(try clear ho0);(try clear ho1);(try clear ho2)) | ((with_reducible refine gate_dst (N:=4) rfl ?_);refine Up.bx 4 27 #[.string (⟨#[]⟩ : ByteArray),.int .i64 0,.slice none 0 0,.slice none 0 0] ?_;intro gb449 hg w36 hbox hb;have n0_:=Aside0.mk (Kd.N_below (Kd.N_elderB (Up.Nup HO440) gb449 (Nat.le_of_eq hg.symm)) hb);have n1_:=Aside0.mk (Kd.V_below (Kd.V_elderB (Up.Vup HO445) gb449 (Nat.le_of_eq hg.symm)) hb);have n2_:=Aside0.mk (Kd.V_below (Kd.V_elderB (Up.Vup HO448) gb449 (Nat.le_of_eq hg.symm)) hb);have n3_:=Up.BB HB hb;have n4_:=Aside0.mk (hbox);have n5_:=Up.gw hg HB;have n6_:=Up.gw hg HB;clear HO440 HO445 HO448 HB;have HO440:=n0_;have HO445:=n1_;have HO448:=n2_;have HB:=n3_;have BK449:=n4_;have GW449:=n5_;have GE449:=n6_;clear n0_ n1_ n2_ n3_ n4_ n5_ n6_ hb hbox hg;have hcz37_0:=Up.c0 BK449;have hcz37_1:=Up.c1 BK449;have hcz37_2:=Up.c2 BK449;have hcz37_3:=Up.c3 BK449;have hfz37_0:=blk_frozen BK449.out 0;have hfz37_1:=blk_frozen BK449.out 1;have hfz37_2:=blk_frozen BK449.out 2;have hfz37_3:=blk_frozen BK449.out 3;obtain ⟨Ao38,co38,eo38⟩:=Kd.V_slice HO445.out;subst eo38;obtain ⟨Ao39,co39,eo39⟩:=Kd.V_slice HO448.out;subst eo39;obtain ⟨Ao40,co40,eo40⟩:=Kd.N_slice HO440.out;subst eo40) | ((with_reducible refine gate_callee (f:=12) rfl ?_);refine Up.gl (some 19) Try.func12 #[.slice Ao40 t438.length co40,.agg #[.string t441,.int .i64 t442,.slice Ao38 t443.length co38,.slice Ao39 t446.length co39]] ?_;(with_reducible refine (impl_ValueSize.calls k _ _ t438 t441 t442 _ _ t443 _ _ t446 t450 _ ?side1 ?side2 ?side3 ?side4 ?side5 ?side6 A4.out).mono ?_);(case side1 => refine (Kd.N_reads' (e:=82) (base:=w.heap.size) (ok:=fun k_ => (True ∧ k_ ≠ gb449)) (n:=t438.length) (c:=co40) ?_).2.2;exact (by (with_reducible repeat (first | apply Kd.N_alloc | apply Kd.N_drewN | apply Kd.N_drew));exact (Kd.N_mono (Kd.N_far (p:=⟨gb449,3,none⟩) (Kd.N_far (p:=⟨gb449,2,none⟩) (Kd.N_far (p:=⟨gb449,1,none⟩) (Kd.N_far (p:=⟨gb449,0,none⟩) (Kd.N_mono HO440.out (fun k_ hk => (⟨hk,hk.2⟩ : _ ∧ k_ ≠ gb449))) (fun _ hk => hk.2) (.string t441)) (fun _ hk => hk.2) (.int .i64 t442)) (fun _ hk => hk.2) (.slice Ao38 t443.length co38)) (fun _ hk => hk.2) (.slice Ao39 t446.length co39)) (fun _ h_ => h_.1))));(case side2 => exact (Kd.N_reads' HO440.out).2.1);(case side3 => refine (Kd.V_reads' (e:=27) (base:=w.heap.size) (ok:=fun k_ => (some k_ ≠ (.slice Ao40 t438.length co40 : Value).ownBlock ∧ k_ ≠ gb449)) (n:=t443.length) (c:=co38) ?_).2.2;exact (by (with_reducible repeat (first | apply Kd.V_alloc | apply Kd.V_drewN | apply Kd.V_drew));exact (Kd.V_mono (Kd.V_far (p:=⟨gb449,3,none⟩) (Kd.V_far (p:=⟨gb449,2,none⟩) (Kd.V_far (p:=⟨gb449,1,none⟩) (Kd.V_far (p:=⟨gb449,0,none⟩) (Kd.V_mono HO445.out (fun k_ hk => (⟨hk,hk.2⟩ : _ ∧ k_ ≠ gb449))) (fun _ hk => hk.2) (.string t441)) (fun _ hk => hk.2) (.int .i64 t442)) (fun _ hk => hk.2) (.slice Ao38 t443.length co38)) (fun _ hk => hk.2) (.slice Ao39 t446.length co39)) (fun _ h_ => h_.1))));(case side4 => exact (Kd.V_reads' HO445.out).2.1);(case side5 => refine (Kd.V_reads' (e:=3) (base:=w.heap.size) (ok:=fun k_ => (some k_ ≠ (.slice Ao40 t438.length co40 : Value).ownBlock ∧ k_ ≠ gb449)) (n:=t446.length) (c:=co39) ?_).2.2;exact (by (with_reducible repeat (first | apply Kd.V_alloc | apply Kd.V_drewN | apply Kd.V_drew));exact (Kd.V_mono (Kd.V_far (p:=⟨gb449,3,none⟩) (Kd.V_far (p:=⟨gb449,2,none⟩) (Kd.V_far (p:=⟨gb449,1,none⟩) (Kd.V_far (p:=⟨gb449,0,none⟩) (Kd.V_mono HO448.out (fun k_ hk => (⟨hk,hk.2⟩ : _ ∧ k_ ≠ gb449))) (fun _ hk => hk.2) (.string t441)) (fun _ hk => hk.2) (.int .i64 t442)) (fun _ hk => hk.2) (.slice Ao38 t443.length co38)) (fun _ hk => hk.2) (.slice Ao39 t446.length co39)) (fun _ h_ => h_.1))));(case side6 => exact (Kd.V_reads' HO448.out).2.1);rintro e w41 ⟨rfl,hb⟩;refine ⟨_,rfl,?_⟩;have n0_:=Aside0.mk (Kd.N_below (by (with_reducible repeat (first | apply Kd.N_alloc | apply Kd.N_drewN | apply Kd.N_drew));exact (Kd.N_mono (Kd.N_far (p:=⟨gb449,3,none⟩) (Kd.N_far (p:=⟨gb449,2,none⟩) (Kd.N_far (p:=⟨gb449,1,none⟩) (Kd.N_far (p:=⟨gb449,0,none⟩) (Kd.N_mono HO440.out (fun k_ hk => (⟨hk,hk.2⟩ : _ ∧ k_ ≠ gb449))) (fun _ hk => hk.2) (.string t441)) (fun _ hk => hk.2) (.int .i64 t442)) (fun _ hk => hk.2) (.slice Ao38 t443.length co38)) (fun _ hk => hk.2) (.slice Ao39 t446.length co39)) (fun _ h_ => h_.1))) hb);have n1_:=Aside0.mk (Kd.V_below (by (with_reducible repeat (first | apply Kd.V_alloc | apply Kd.V_drewN | apply Kd.V_drew));exact (Kd.V_mono (Kd.V_far (p:=⟨gb449,3,none⟩) (Kd.V_far (p:=⟨gb449,2,none⟩) (Kd.V_far (p:=⟨gb449,1,none⟩) (Kd.V_far (p:=⟨gb449,0,none⟩) (Kd.V_mono HO445.out (fun k_ hk => (⟨hk,hk.2⟩ : _ ∧ k_ ≠ gb449))) (fun _ hk => hk.2) (.string t441)) (fun _ hk => hk.2) (.int .i64 t442)) (fun _ hk => hk.2) (.slice Ao38 t443.length co38)) (fun _ hk => hk.2) (.slice Ao39 t446.length co39)) (fun _ h_ => h_.1))) hb);have n2_:=Aside0.mk (Kd.V_below (by (with_reducible repeat (first | apply Kd.V_alloc | apply Kd.V_drewN | apply Kd.V_drew));exact (Kd.V_mono (Kd.V_far (p:=⟨gb449,3,none⟩) (Kd.V_far (p:=⟨gb449,2,none⟩) (Kd.V_far (p:=⟨gb449,1,none⟩) (Kd.V_far (p:=⟨gb449,0,none⟩) (Kd.V_mono HO448.out (fun k_ hk => (⟨hk,hk.2⟩ : _ ∧ k_ ≠ gb449))) (fun _ hk => hk.2) (.string t441)) (fun _ hk => hk.2) (.int .i64 t442)) (fun _ hk => hk.2) (.slice Ao38 t443.length co38)) (fun _ hk => hk.2) (.slice Ao39 t446.length co39)) (fun _ h_ => h_.1))) hb);have n3_:=Aside0.mk (blk_below (g:=gb449) (o:=.cells #[.string t441,.int .i64 t442,.slice Ao38 t443.length co38,.slice Ao39 t446.length co39] 27 (0,0)) (Up.Kx BK449) hb);have n4_:=Aside0.mk (below_step (Up.Bx HB) hb);clear HO440 HO445 HO448 BK449 HB;have HO440:=n0_;have HO445:=n1_;have HO448:=n2_;have BK449:=n3_;have HB:=n4_;clear n0_ n1_ n2_ n3_ n4_;(try clear hb);(try clear hb2);(try clear hk);(try clear hi);have hcz42_0:=Up.c0 BK449;have hcz42_1:=Up.c1 BK449;have hcz42_2:=Up.c2 BK449;have hcz42_3:=Up.c3 BK449;have hfz42_0:=blk_frozen BK449.out 0;have hfz42_1:=blk_frozen BK449.out 1;have hfz42_2:=blk_frozen BK449.out 2;have hfz42_3:=blk_frozen BK449.out 3) | ((with_reducible refine gate_callee (f:=13) rfl ?_);refine Up.gl (some 22) Try.func13 #[.slice Ao40 t438.length co40,.agg #[.string t441,.int .i64 t442,.slice Ao38 t443.length co38,.slice Ao39 t446.length co39]] ?_;(with_reducible refine (spec_ValueSize.calls k _ _ t438 t441 t442 _ _ t443 _ _ t446 t451 _ ?side1 ?side2 ?side3 ?side4 ?side5 ?side6 A5.out).mono ?_);(case side1 => repeat (first | exact (Kd.N_reads' HO440.out).2.2 | (with_reducible refine Kd.C_alloc ?_ _) | (with_reducible refine Kd.C_drewN ?_ _) | (with_reducible refine Kd.C_drew ?_)));(case side2 => exact (Kd.N_reads' HO440.out).2.1);(case side3 => repeat (first | exact (Kd.V_reads' HO445.out).2.2 | (with_reducible refine Kd.C_alloc ?_ _) | (with_reducible refine Kd.C_drewN ?_ _) | (with_reducible refine Kd.C_drew ?_)));(case side4 => exact (Kd.V_reads' HO445.out).2.1);(case side5 => repeat (first | exact (Kd.V_reads' HO448.out).2.2 | (with_reducible refine Kd.C_alloc ?_ _) | (with_reducible refine Kd.C_drewN ?_ _) | (with_reducible refine Kd.C_drew ?_)));(case side6 => exact (Kd.V_reads' HO448.out).2.1);rintro e w43 ⟨rfl,hb⟩;refine ⟨_,rfl,?_⟩;have n0_:=Up.NB HO440 hb;have n1_:=Up.VB HO445 hb;have n2_:=Up.VB HO448 hb;have n3_:=Up.KB BK449 hb;have n4_:=Aside0.mk (below_step (Up.Bx HB) hb);clear HO440 HO445 HO448 BK449 HB;have HO440:=n0_;have HO445:=n1_;have HO448:=n2_;have BK449:=n3_;have HB:=n4_;clear n0_ n1_ n2_ n3_ n4_;(try clear hb);(try clear hb2);(try clear hk);(try clear hi)))
   go_ret
   exact Up.e1 (Up.Bx HB)

/-- THE ONE PURE STATEMENT of laws_FnValueSize: yours. -/
def laws_FnValueSize.Pure : Prop:=∀ (l0 : List Int),l0.length ≤ maxLen → l0.length * 1 ≤ 140737488351232 → (∀ x ∈ l0,(Lit.int .u8 x).wf = true) → ∃ k,laws_FnValueSize.f k l0 = some true
theorem laws_FnValueSize.walk (P : laws_FnValueSize.Pure) (a0 : Option Addr) (len0 cap0 : Nat) (z0 : List Int) (w : World) (w0 : (a0 = none ∧ len0 = 0 ∧ cap0 = 0 ∧ z0 = []) ∨ ∃ x,a0 = some x ∧ len0 ≤ cap0 ∧ cap0 ≤ maxLen ∧ z0.length = cap0 ∧ (∀ i,i < z0.length → w.cell? (x.add i) = some (.int .u8 (z0.getD i 0))) ∧ ∀ n ∈ z0,(Lit.int .u8 n).wf = true) (y0 : len0 * 1 ≤ 140737488351232) :
  Calls Try.prog 3 #[.slice a0 len0 cap0] w fun e w' => e = .returned (.bool true) ∧ Below w.heap.size w w':=by
 obtain ⟨l0,rfl,hr0,hm0,hw0,hc0⟩:=ReadsInt.ofRowC w0
 obtain ⟨k,h⟩:=P l0 hm0 y0 hw0
 refine (laws_FnValueSize.calls k _ _ l0 true w (Kd.C_of_reads (d:=(0 : Int)) (h1:=fun _ => rfl) hr0) hc0 h).mono ?_
 rintro e w' ⟨rfl,hd⟩
 exact ⟨rfl,hd⟩

end Go.Proofs.Ytdgmlakgnbmbbaa.OFnValueSize
