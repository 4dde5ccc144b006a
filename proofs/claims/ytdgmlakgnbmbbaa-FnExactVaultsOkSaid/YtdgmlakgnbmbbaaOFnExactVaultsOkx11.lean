-- Laid by a program of this session (wip/myprint.py): the kit's print of the functions, contracts of our own among them.
import Derived.Test.YtdgmlakgnbmbbaaOFnExactVaultsOkx0
import Derived.Test.YtdgmlakgnbmbbaaOFnExactVaultsOkx6
import Derived.Test.YtdgmlakgnbmbbaaOFnExactVaultsOkx7
import Derived.Test.YtdgmlakgnbmbbaaOFnExactVaultsOkx9
import Derived.Test.YtdgmlakgnbmbbaaOFnExactVaultsOkx10
namespace Go.Proofs.Ytdgmlakgnbmbbaa.OFnExactVaultsOk
open Go.RowKit Go.Proofs.YtdgmlakgnbmbbaaW.PrintWords Go.Proofs.YtdgmlakgnbmbbaaW.PrintLast Go.Proofs.YtdgmlakgnbmbbaaW.PrintMore
attribute [local go_sem] max2_int min2_int max_two min_two max_three min_three max_four min_four   -- for this text's walks alone
set_option linter.unusedVariables false
set_option linter.unusedSimpArgs false

/-! ### spec_l9Kind: function 103 -/
def spec_l9Kind.f (k : Nat) (l0 : List (List (S113))) (a1_0 : ByteArray) (a1_1 : Int) (l1_2 : List (S27)) (l1_3 : List Int) : Option (Bool):=(spec_l1Kind.f a1_0).bind fun bt259 => (if bt259.2.2 = true then ((spec_l2Ok.f k l0 a1_0 a1_1 l1_2 l1_3).bind fun t262 => (if t262 = true then ((spec_l1Able.f k l0 a1_0).bind fun t263 => ((spec_l1Can.f t263 8).bind fun t264 => (some t264))) else (some false))) else (some false))
theorem spec_l9Kind.mono : ∀ a0 a1 a2 a3 a4 k,LeO (spec_l9Kind.f k a0 a1 a2 a3 a4) (spec_l9Kind.f (k + 1) a0 a1 a2 a3 a4):=by
 intro a0 a1 a2 a3 a4 k
 unfold spec_l9Kind.f
 repeat' first
   | (with_reducible exact spec_l1Able.mono _ _ _)
   | (with_reducible exact spec_l2Ok.mono _ _ _ _ _ _)
   | (with_reducible exact LeO.refl _)
   | (with_reducible exact LeO.none _)
   | (with_reducible refine LeO.ite ?_ ?_)
   | (with_reducible refine LeO.bind ?_ (fun _ => ?_))
   | exact spec_l1Able.mono _ _ _
   | exact spec_l2Ok.mono _ _ _ _ _ _
   | exact LeO.none _
   | refine LeO.ite ?_ ?_
   | refine LeO.bind ?_ (fun _ => ?_)
set_option maxHeartbeats 8000000 in
set_option maxRecDepth 100000 in
theorem spec_l9Kind.calls (k : Nat) (A0 : Option Addr) (c0 : Nat) (l0 : List (List (S113))) (a1_0 : ByteArray) (a1_1 : Int) (A1_2 : Option Addr) (c1_2 : Nat) (l1_2 : List (S27)) (A1_3 : Option Addr) (c1_3 : Nat) (l1_3 : List Int) (r : Bool) (w : World) (hr0 : Kd.C (Kd.slice 113 k113) w A0 l0.length l0) (hc0 : l0.length ≤ c0) (hr1_2 : Kd.C k27 w A1_2 l1_2.length l1_2) (hc1_2 : l1_2.length ≤ c1_2) (hr1_3 : Kd.C (Kd.int .i64) w A1_3 l1_3.length l1_3) (hc1_3 : l1_3.length ≤ c1_3) (h : spec_l9Kind.f k l0 a1_0 a1_1 l1_2 l1_3 = some r) :
  Calls Try.prog 103 #[.slice A0 l0.length c0,.agg #[.string a1_0,.int .i64 a1_1,.slice A1_2 l1_2.length c1_2,.slice A1_3 l1_3.length c1_3]] w fun e w' => e = .returned (.bool r) ∧ Below w.heap.size w w':=by
 have hu27:=Try.underlying27
 have HR0:=Aside0.mk hr0
 have HC0:=Aside0.mk hc0
 clear hr0 hc0
 have HR1_2:=Aside0.mk hr1_2
 have HC1_2:=Aside0.mk hc1_2
 clear hr1_2 hc1_2
 have HR1_3:=Aside0.mk hr1_3
 have HC1_3:=Aside0.mk hc1_3
 clear hr1_3 hc1_3
 have HB:=Aside0.mk (Below.refl w.heap.size w)
 have H : ((spec_l1Kind.f a1_0).bind fun bt259 => (if bt259.2.2 = true then ((spec_l2Ok.f k l0 a1_0 a1_1 l1_2 l1_3).bind fun t262 => (if t262 = true then ((spec_l1Able.f k l0 a1_0).bind fun t263 => ((spec_l1Can.f t263 8).bind fun t264 => (some t264))) else (some false))) else (some false))) = some r:=h
 clear h
 replace H:=Option.bind_eq_some_iff.mp H
 obtain ⟨⟨t259,t260,t261⟩,A30,H⟩:=H
 replace H : (if t261 = true then ((spec_l2Ok.f k l0 a1_0 a1_1 l1_2 l1_3).bind fun t262 => (if t262 = true then ((spec_l1Able.f k l0 a1_0).bind fun t263 => ((spec_l1Can.f t263 8).bind fun t264 => (some t264))) else (some false))) else (some false)) = some r:=H
 have A3:=Aside0.mk A30
 clear A30
 by_cases c4 : t261 = true
 ·subst c4
  have H1 : ((spec_l2Ok.f k l0 a1_0 a1_1 l1_2 l1_3).bind fun t262 => (if t262 = true then ((spec_l1Able.f k l0 a1_0).bind fun t263 => ((spec_l1Can.f t263 8).bind fun t264 => (some t264))) else (some false))) = some r:=by rw [if_pos rfl] at H;exact H
  clear H
  have H:=H1
  clear H1
  replace H:=Option.bind_eq_some_iff.mp H
  obtain ⟨t262,A50,H⟩:=H
  replace H : (if t262 = true then ((spec_l1Able.f k l0 a1_0).bind fun t263 => ((spec_l1Can.f t263 8).bind fun t264 => (some t264))) else (some false)) = some r:=H
  have A5:=Aside0.mk A50
  clear A50
  by_cases c6 : t262 = true
  ·subst c6
   have H1 : ((spec_l1Able.f k l0 a1_0).bind fun t263 => ((spec_l1Can.f t263 8).bind fun t264 => (some t264))) = some r:=by rw [if_pos rfl] at H;exact H
   clear H
   have H:=H1
   clear H1
   replace H:=Option.bind_eq_some_iff.mp H
   obtain ⟨t263,A70,H⟩:=H
   replace H : ((spec_l1Can.f t263 8).bind fun t264 => (some t264)) = some r:=H
   have A7:=Aside0.mk A70
   clear A70
   replace H:=Option.bind_eq_some_iff.mp H
   obtain ⟨t264,A80,H⟩:=H
   replace H : (some t264) = some r:=H
   have A8:=Aside0.mk A80
   clear A80
   obtain rfl:=Option.some.inj H
   go_enter Try.func103,Try.ntmps103
   go_wp2_with (first | ((with_reducible refine gate_dst (N:=3) rfl ?_);refine Up.bx 3 27 #[.string a1_0,.int .i64 a1_1,.slice A1_2 l1_2.length c1_2,.slice A1_3 l1_3.length c1_3] ?_;intro gb258 hg w9 hbox hb;have n0_:=Up.BB HB hb;have n1_:=Aside0.mk (hbox);have n2_:=Up.gw hg HB;have n3_:=Up.gw hg HB;clear HB;have HB:=n0_;have BK258:=n1_;have GW258:=n2_;have GE258:=n3_;clear n0_ n1_ n2_ n3_ hb hbox hg;have hcz10_0:=Up.c0 BK258;have hcz10_1:=Up.c1 BK258;have hcz10_2:=Up.c2 BK258;have hcz10_3:=Up.c3 BK258;have hfz10_0:=blk_frozen BK258.out 0;have hfz10_1:=blk_frozen BK258.out 1;have hfz10_2:=blk_frozen BK258.out 2;have hfz10_3:=blk_frozen BK258.out 3) | ((with_reducible refine gate_callee (f:=50) rfl ?_);refine Up.gl (some 11) Try.func50 #[.string a1_0] ?_;(with_reducible refine (spec_l1Kind.calls a1_0 t259 t260 true _ A3.out).mono ?_);rintro e w' ⟨rfl,⟨nd,rfl⟩⟩;refine ⟨_,rfl,?_⟩) | (go_at_call 57;(with_reducible refine (spec_l2Ok.calls k _ _ l0 a1_0 a1_1 _ _ l1_2 _ _ l1_3 true _ ?side1 ?side2 ?side3 ?side4 ?side5 ?side6 A5.out).mono ?_);(case side1 => repeat (first | exact (Kd.C_below HR0.out (Up.Bx HB)) | (with_reducible refine Kd.C_alloc ?_ _) | (with_reducible refine Kd.C_drewN ?_ _) | (with_reducible refine Kd.C_drew ?_)));(case side2 => exact HC0.out);(case side3 => repeat (first | exact (Kd.C_below HR1_2.out (Up.Bx HB)) | (with_reducible refine Kd.C_alloc ?_ _) | (with_reducible refine Kd.C_drewN ?_ _) | (with_reducible refine Kd.C_drew ?_)));(case side4 => exact HC1_2.out);(case side5 => repeat (first | exact (Kd.C_below HR1_3.out (Up.Bx HB)) | (with_reducible refine Kd.C_alloc ?_ _) | (with_reducible refine Kd.C_drewN ?_ _) | (with_reducible refine Kd.C_drew ?_)));(case side6 => exact HC1_3.out);rintro e w11 ⟨rfl,hb⟩;have n0_:=Up.KB BK258 hb;have n1_:=Aside0.mk (below_step (Up.Bx HB) hb);clear BK258 HB;have BK258:=n0_;have HB:=n1_;clear n0_ n1_;(try clear hb);(try clear hb2);(try clear hk);(try clear hi);have hcz12_0:=Up.c0 BK258;have hcz12_1:=Up.c1 BK258;have hcz12_2:=Up.c2 BK258;have hcz12_3:=Up.c3 BK258;have hfz12_0:=blk_frozen BK258.out 0;have hfz12_1:=blk_frozen BK258.out 1;have hfz12_2:=blk_frozen BK258.out 2;have hfz12_3:=blk_frozen BK258.out 3) | (go_at_call 101;(with_reducible refine (spec_l1Able.calls k _ _ l0 a1_0 t263 _ ?side1 ?side2 A7.out).mono ?_);(case side1 => exact Up.Cx HR0 HB);(case side2 => exact HC0.out);rintro e w' ⟨rfl,⟨nd,rfl⟩⟩) | (go_at_call 100;(with_reducible refine (spec_l1Can.calls t263 8 t264 _ A8.out).mono ?_);rintro e w' ⟨rfl,⟨nd,rfl⟩⟩))
   go_ret
   exact Up.e1 (Up.Bx HB)
  ·replace c6:=Bool.eq_false_iff.mpr c6
   subst c6
   have H1 : (some false) = some r:=by rw [if_neg (show ¬ (false = true) by decide)] at H;exact H
   clear H
   have H:=H1
   clear H1
   obtain rfl:=Option.some.inj H
   go_enter Try.func103,Try.ntmps103
   go_wp2_with (first | ((with_reducible refine gate_dst (N:=3) rfl ?_);refine Up.bx 3 27 #[.string a1_0,.int .i64 a1_1,.slice A1_2 l1_2.length c1_2,.slice A1_3 l1_3.length c1_3] ?_;intro gb258 hg w13 hbox hb;have n0_:=Up.BB HB hb;have n1_:=Aside0.mk (hbox);have n2_:=Up.gw hg HB;have n3_:=Up.gw hg HB;clear HB;have HB:=n0_;have BK258:=n1_;have GW258:=n2_;have GE258:=n3_;clear n0_ n1_ n2_ n3_ hb hbox hg;have hcz14_0:=Up.c0 BK258;have hcz14_1:=Up.c1 BK258;have hcz14_2:=Up.c2 BK258;have hcz14_3:=Up.c3 BK258;have hfz14_0:=blk_frozen BK258.out 0;have hfz14_1:=blk_frozen BK258.out 1;have hfz14_2:=blk_frozen BK258.out 2;have hfz14_3:=blk_frozen BK258.out 3) | ((with_reducible refine gate_callee (f:=50) rfl ?_);refine Up.gl (some 11) Try.func50 #[.string a1_0] ?_;(with_reducible refine (spec_l1Kind.calls a1_0 t259 t260 true _ A3.out).mono ?_);rintro e w' ⟨rfl,⟨nd,rfl⟩⟩;refine ⟨_,rfl,?_⟩) | (go_at_call 57;(with_reducible refine (spec_l2Ok.calls k _ _ l0 a1_0 a1_1 _ _ l1_2 _ _ l1_3 false _ ?side1 ?side2 ?side3 ?side4 ?side5 ?side6 A5.out).mono ?_);(case side1 => repeat (first | exact (Kd.C_below HR0.out (Up.Bx HB)) | (with_reducible refine Kd.C_alloc ?_ _) | (with_reducible refine Kd.C_drewN ?_ _) | (with_reducible refine Kd.C_drew ?_)));(case side2 => exact HC0.out);(case side3 => repeat (first | exact (Kd.C_below HR1_2.out (Up.Bx HB)) | (with_reducible refine Kd.C_alloc ?_ _) | (with_reducible refine Kd.C_drewN ?_ _) | (with_reducible refine Kd.C_drew ?_)));(case side4 => exact HC1_2.out);(case side5 => repeat (first | exact (Kd.C_below HR1_3.out (Up.Bx HB)) | (with_reducible refine Kd.C_alloc ?_ _) | (with_reducible refine Kd.C_drewN ?_ _) | (with_reducible refine Kd.C_drew ?_)));(case side6 => exact HC1_3.out);rintro e w15 ⟨rfl,hb⟩;have n0_:=Up.KB BK258 hb;have n1_:=Aside0.mk (below_step (Up.Bx HB) hb);clear BK258 HB;have BK258:=n0_;have HB:=n1_;clear n0_ n1_;(try clear hb);(try clear hb2);(try clear hk);(try clear hi)))
   go_ret
   exact Up.e1 (Up.Bx HB)
 ·replace c4:=Bool.eq_false_iff.mpr c4
  subst c4
  have H1 : (some false) = some r:=by rw [if_neg (show ¬ (false = true) by decide)] at H;exact H
  clear H
  have H:=H1
  clear H1
  obtain rfl:=Option.some.inj H
  go_enter Try.func103,Try.ntmps103
  go_wp2_with (first | ((with_reducible refine gate_dst (N:=3) rfl ?_);refine Up.bx 3 27 #[.string a1_0,.int .i64 a1_1,.slice A1_2 l1_2.length c1_2,.slice A1_3 l1_3.length c1_3] ?_;intro gb258 hg w16 hbox hb;have n0_:=Up.BB HB hb;have n1_:=Aside0.mk (hbox);have n2_:=Up.gw hg HB;have n3_:=Up.gw hg HB;clear HB;have HB:=n0_;have BK258:=n1_;have GW258:=n2_;have GE258:=n3_;clear n0_ n1_ n2_ n3_ hb hbox hg;have hcz17_0:=Up.c0 BK258;have hcz17_1:=Up.c1 BK258;have hcz17_2:=Up.c2 BK258;have hcz17_3:=Up.c3 BK258;have hfz17_0:=blk_frozen BK258.out 0;have hfz17_1:=blk_frozen BK258.out 1;have hfz17_2:=blk_frozen BK258.out 2;have hfz17_3:=blk_frozen BK258.out 3) | ((with_reducible refine gate_callee (f:=50) rfl ?_);refine Up.gl (some 11) Try.func50 #[.string a1_0] ?_;(with_reducible refine (spec_l1Kind.calls a1_0 t259 t260 false _ A3.out).mono ?_);rintro e w' ⟨rfl,⟨nd,rfl⟩⟩;refine ⟨_,rfl,?_⟩))
  go_ret
  exact Up.e1 (Up.Bx HB)

@[go_sem] theorem geqB_ (t : TypeId) (a b : ByteArray) : binOp .geq t (.string a) (.string b) = pure (.bool !(Op.bytesLess a.toList b.toList)):=by simp [binOp,Op.stringOp]
/-! ### spec_l9Ok: function 68 -/
mutual
def spec_l9Ok.l0 : Nat → List (List (S113)) → List (S55) → Int → Option (Bool)
 | 0,_,_,_ => none
 | k + 1,x0,x1,x5 => if x5 < (x1.length : Int) then (if 0 ≤ x5 then ((spec_l6In.f ((rd_T55 x1 x5).f0) 0 3).bind fun t266 => (if t266 = true then ((spec_l9Kind.f k x0 ((rd_T55 x1 x5).f1.f0) ((rd_T55 x1 x5).f1.f1) ((rd_T55 x1 x5).f1.f2) ((rd_T55 x1 x5).f1.f3)).bind fun t268 => (spec_l9Ok.j1 k x0 x1 x5 (!t268))) else (spec_l9Ok.j1 k x0 x1 x5 true))) else (none)) else (some (decide ((x1.length : Int) ≤ 36)))
def spec_l9Ok.j1 : Nat → List (List (S113)) → List (S55) → Int → Bool → Option (Bool)
 | 0,_,_,_,_ => none
 | k + 1,x0,x1,x5,x28 => if x28 = true then (some false) else (if x5 > 0 then (if 0 ≤ (wrap64 (x5 - 1)) then (if (wrap64 (x5 - 1)) < (x1.length : Int) then (if 0 ≤ x5 then (if x5 < (x1.length : Int) then (if ((rd_T55 x1 (wrap64 (x5 - 1))).f0) > ((rd_T55 x1 x5).f0) then (some false) else (if ((rd_T55 x1 (wrap64 (x5 - 1))).f0) = ((rd_T55 x1 x5).f0) then (if ((Op.bytesLess (((rd_T55 x1 (wrap64 (x5 - 1))).f1.f0).toList) (((rd_T55 x1 x5).f1.f0).toList)) = true) then (spec_l9Ok.l0 k x0 x1 (wrap64 (x5 + 1))) else (some false)) else (spec_l9Ok.l0 k x0 x1 (wrap64 (x5 + 1))))) else (none)) else (none)) else (none)) else (none)) else (spec_l9Ok.l0 k x0 x1 (wrap64 (x5 + 1))))
end
def spec_l9Ok.f (k : Nat) (l0 : List (List (S113))) (l1 : List (S55)) : Option (Bool):=spec_l9Ok.l0 k l0 l1 0
theorem spec_l9Ok.mono_l : ∀ k,(∀ y0 y1 y2,LeO (spec_l9Ok.l0 k y0 y1 y2) (spec_l9Ok.l0 (k + 1) y0 y1 y2)) ∧ (∀ y0 y1 y2 y3,LeO (spec_l9Ok.j1 k y0 y1 y2 y3) (spec_l9Ok.j1 (k + 1) y0 y1 y2 y3))
 | 0 => ⟨fun _ _ _ r h => by simp [spec_l9Ok.l0] at h,fun _ _ _ _ r h => by simp [spec_l9Ok.j1] at h⟩
 | k + 1 => by
  obtain ⟨ih0,ih1⟩:=spec_l9Ok.mono_l k
  refine ⟨?_,?_⟩
  ·intro y0 y1 y2
   unfold spec_l9Ok.l0
   repeat' first
   | (with_reducible exact ih0 _ _ _)
   | (with_reducible exact ih1 _ _ _ _)
   | (with_reducible exact spec_l9Kind.mono _ _ _ _ _ _)
   | (with_reducible exact LeO.refl _)
   | (with_reducible exact LeO.none _)
   | (with_reducible refine LeO.ite ?_ ?_)
   | (with_reducible refine LeO.bind ?_ (fun _ => ?_))
   | exact ih0 _ _ _
   | exact ih1 _ _ _ _
   | exact spec_l9Kind.mono _ _ _ _ _ _
   | exact LeO.none _
   | refine LeO.ite ?_ ?_
   | refine LeO.bind ?_ (fun _ => ?_)
  ·intro y0 y1 y2 y3
   unfold spec_l9Ok.j1
   repeat' first
   | (with_reducible exact ih0 _ _ _)
   | (with_reducible exact ih1 _ _ _ _)
   | (with_reducible exact spec_l9Kind.mono _ _ _ _ _ _)
   | (with_reducible exact LeO.refl _)
   | (with_reducible exact LeO.none _)
   | (with_reducible refine LeO.ite ?_ ?_)
   | (with_reducible refine LeO.bind ?_ (fun _ => ?_))
   | exact ih0 _ _ _
   | exact ih1 _ _ _ _
   | exact spec_l9Kind.mono _ _ _ _ _ _
   | exact LeO.none _
   | refine LeO.ite ?_ ?_
   | refine LeO.bind ?_ (fun _ => ?_)
theorem spec_l9Ok.mono : ∀ a0 a1 k,LeO (spec_l9Ok.f k a0 a1) (spec_l9Ok.f (k + 1) a0 a1):=by
 intro a0 a1 k
 obtain ⟨ih0,ih1⟩:=spec_l9Ok.mono_l k
 unfold spec_l9Ok.f
 repeat' first
   | (with_reducible exact ih0 _ _ _)
   | (with_reducible exact ih1 _ _ _ _)
   | (with_reducible exact spec_l9Kind.mono _ _ _ _ _ _)
   | (with_reducible exact LeO.refl _)
   | (with_reducible exact LeO.none _)
   | (with_reducible refine LeO.ite ?_ ?_)
   | (with_reducible refine LeO.bind ?_ (fun _ => ?_))
   | exact ih0 _ _ _
   | exact ih1 _ _ _ _
   | exact spec_l9Kind.mono _ _ _ _ _ _
   | exact LeO.none _
   | refine LeO.ite ?_ ?_
   | refine LeO.bind ?_ (fun _ => ?_)
set_option maxHeartbeats 8000000 in
set_option maxRecDepth 100000 in
theorem spec_l9Ok.calls (k : Nat) (A0 : Option Addr) (c0 : Nat) (l0 : List (List (S113))) (A1 : Option Addr) (c1 : Nat) (l1 : List (S55)) (r : Bool) (w : World) (hr0 : Kd.C (Kd.slice 113 k113) w A0 l0.length l0) (hc0 : l0.length ≤ c0) (hr1 : Kd.C k55 w A1 l1.length l1) (hc1 : l1.length ≤ c1) (h : spec_l9Ok.f k l0 l1 = some r) :
  Calls Try.prog 68 #[.slice A0 l0.length c0,.slice A1 l1.length c1] w fun e w' => e = .returned (.bool r) ∧ Below w.heap.size w w':=by
 have hu27:=Try.underlying27
 have HR0:=Aside0.mk hr0
 have HC0:=Aside0.mk hc0
 clear hr0 hc0
 have HR1:=Aside0.mk hr1
 have HC1:=Aside0.mk hc1
 clear hr1 hc1
 have HB:=Aside0.mk (Below.refl w.heap.size w)
 have H : (spec_l9Ok.l0 k l0 l1 0) = some r:=h
 clear h
 have H':=Aside0.mk H
 clear H
 go_enter Try.func68,Try.ntmps68
 go_wp2
 repeat (go_quiet (fail);try go_wp2)
 go_loopg [5] k (fun kq v5 w' => ∃ (x5_1 : Int),v5 = .int .i64 x5_1 ∧ Aside0 (spec_l9Ok.l0 kq l0 l1 x5_1 = some r) ∧ Aside0 (kq ≤ k) ∧ Aside0 (Below w.heap.size w w'))
 case atStart => exact ⟨(0),(by first | rfl | (simp;done) | (simp [*];done)),H',⟨Nat.le_refl _⟩,⟨Up.Bup HB⟩⟩
 case round =>
  clear H'
  try clear c1
  try clear p2
  obtain ⟨x5_1,rfl,HA,HK1,HB⟩:=hrel
  cases gk with
  | zero => exact absurd HA.out (by simp [spec_l9Ok.l0])
  | succ k1 =>
   have H:=HA.out
   clear HA
   simp only [spec_l9Ok.l0] at H
   by_cases c3 : x5_1 < (l1.length : Int)
   ·rw [if_pos c3] at H
    have c3b0 : decide (x5_1 < (l1.length : Int)) = true:=decide_eq_true c3
    clear c3
    have HC4:=Aside0.mk H
    clear H
    go_upto_region 4 with (fail)
    repeat (go_quiet (fail);go_upto_region 4 with (fail))
    go_cut [28] (fun v28 wc => ∃ (kq : Nat) (x28_3 : Bool),v28 = .bool x28_3 ∧ Aside0 (spec_l9Ok.j1 kq l0 l1 x5_1 x28_3 = some r) ∧ Aside0 (kq ≤ k1) ∧ Aside0 (Below w.heap.size w wc))
    case first =>
     have H:=HC4.out
     clear HC4
     by_cases c5 : 0 ≤ x5_1
     ·rw [if_pos c5] at H
      have c5b0 : decide (0 ≤ x5_1) = true:=decide_eq_true c5
      clear c5
      (first | rw [c5b0] | (simp only [i64_w,i32_w];rw [c5b0]) | skip)
      replace H:=Option.bind_eq_some_iff.mp H
      obtain ⟨t266,A60,H⟩:=H
      replace H : (if t266 = true then ((spec_l9Kind.f k1 l0 ((rd_T55 l1 x5_1).f1.f0) ((rd_T55 l1 x5_1).f1.f1) ((rd_T55 l1 x5_1).f1.f2) ((rd_T55 l1 x5_1).f1.f3)).bind fun t268 => (spec_l9Ok.j1 k1 l0 l1 x5_1 (!t268))) else (spec_l9Ok.j1 k1 l0 l1 x5_1 true)) = some r:=H
      have A6:=Aside0.mk A60
      clear A60
      by_cases c7 : t266 = true
      ·subst c7
       have H1 : ((spec_l9Kind.f k1 l0 ((rd_T55 l1 x5_1).f1.f0) ((rd_T55 l1 x5_1).f1.f1) ((rd_T55 l1 x5_1).f1.f2) ((rd_T55 l1 x5_1).f1.f3)).bind fun t268 => (spec_l9Ok.j1 k1 l0 l1 x5_1 (!t268))) = some r:=by rw [if_pos rfl] at H;exact H
       clear H
       have H:=H1
       clear H1
       replace H:=Option.bind_eq_some_iff.mp H
       obtain ⟨t268,A80,H⟩:=H
       replace H : (spec_l9Ok.j1 k1 l0 l1 x5_1 (!t268)) = some r:=H
       have A8:=Aside0.mk A80
       clear A80
       have H':=Aside0.mk H
       clear H
       have p265 : 0 ≤ (x5_1 : Int):=Up.od
       have q265 : x5_1 < (l1.length : Int):=Up.od
       obtain ⟨ad265,A265_3,c265_3,A265_4,c265_4,e265,hx265_0,hx265_1,hx265_2,hx265_3,hx265_4,hl265_3,hi265_3,hl265_4,hi265_4⟩:=at_T55 HR1.out x5_1 p265 q265
       cases e265
       replace hx265_0:=Up.hc HB hx265_0
       replace hx265_1:=Up.hc HB hx265_1
       replace hx265_2:=Up.hc HB hx265_2
       replace hx265_3:=Up.hc HB hx265_3
       replace hx265_4:=Up.hc HB hx265_4
       have HR265_3:=Aside0.mk hi265_3
       have HC265_3:=Aside0.mk hl265_3
       clear hi265_3 hl265_3
       have HR265_4:=Aside0.mk hi265_4
       have HC265_4:=Aside0.mk hl265_4
       clear hi265_4 hl265_4
       replace p265:=eq_true p265
       replace q265:=eq_true q265
       go_wp2_with (first | (go_at_call 97;(with_reducible refine (spec_l6In.calls ((rd_T55 l1 x5_1).f0) 0 3 true _ A6.out).mono ?_);rintro e w' ⟨rfl,⟨nd,rfl⟩⟩;(try first | exact ⟨rfl,_,World.drewN_drewN _ _ _⟩ | exact ⟨rfl,_,Eq.trans (World.drewN_drewN _ _ _) (congrArg (World.drewN _) (Nat.add_assoc _ _ _))⟩);have p267 : 0 ≤ (x5_1 : Int):=Up.od;have q267 : x5_1 < (l1.length : Int):=Up.od;obtain ⟨ad267,A267_3,c267_3,A267_4,c267_4,e267,hx267_0,hx267_1,hx267_2,hx267_3,hx267_4,hl267_3,hi267_3,hl267_4,hi267_4⟩:=at_T55 HR1.out x5_1 p267 q267;obtain rfl : ad265 = ad267:=(by injection e267);replace hx267_0:=Up.hc HB hx267_0;replace hx267_1:=Up.hc HB hx267_1;replace hx267_2:=Up.hc HB hx267_2;replace hx267_3:=Up.hc HB hx267_3;replace hx267_4:=Up.hc HB hx267_4;have HR267_3:=Aside0.mk hi267_3;have HC267_3:=Aside0.mk hl267_3;clear hi267_3 hl267_3;have HR267_4:=Aside0.mk hi267_4;have HC267_4:=Aside0.mk hl267_4;clear hi267_4 hl267_4;replace p267:=eq_true p267;replace q267:=eq_true q267;have ea_:=Option.some.inj (hx265_3.symm.trans hx267_3);injection ea_ with ea_ en_ ec_;subst ea_;subst ec_;clear en_;have ea_:=Option.some.inj (hx265_4.symm.trans hx267_4);injection ea_ with ea_ en_ ec_;subst ea_;subst ec_;clear en_) | (go_at_call 103;(with_reducible refine (spec_l9Kind.calls k1 _ _ l0 ((rd_T55 l1 x5_1).f1.f0) ((rd_T55 l1 x5_1).f1.f1) _ _ ((rd_T55 l1 x5_1).f1.f2) _ _ ((rd_T55 l1 x5_1).f1.f3) t268 _ ?side1 ?side2 ?side3 ?side4 ?side5 ?side6 A8.out).mono ?_);(case side1 => repeat (first | exact (Kd.C_below HR0.out (Up.Bup HB)) | (with_reducible refine Kd.C_alloc ?_ _) | (with_reducible refine Kd.C_drewN ?_ _) | (with_reducible refine Kd.C_drew ?_)));(case side2 => exact HC0.out);(case side3 => repeat (first | exact (Kd.C_below HR267_3.out (Up.Bup HB)) | (with_reducible refine Kd.C_alloc ?_ _) | (with_reducible refine Kd.C_drewN ?_ _) | (with_reducible refine Kd.C_drew ?_)));(case side4 => exact HC267_3.out);(case side5 => repeat (first | exact (Kd.C_below HR267_4.out (Up.Bup HB)) | (with_reducible refine Kd.C_alloc ?_ _) | (with_reducible refine Kd.C_drewN ?_ _) | (with_reducible refine Kd.C_drew ?_)));(case side6 => exact HC267_4.out);rintro e w9 ⟨rfl,hb⟩;have n0_:=Up.BB HB hb;clear HB;have HB:=n0_;clear n0_;(try clear hb);(try clear hb2);(try clear hk);(try clear hi)))
       repeat (go_quiet (first | (go_at_call 97;(with_reducible refine (spec_l6In.calls ((rd_T55 l1 x5_1).f0) 0 3 true _ A6.out).mono ?_);rintro e w' ⟨rfl,⟨nd,rfl⟩⟩;(try first | exact ⟨rfl,_,World.drewN_drewN _ _ _⟩ | exact ⟨rfl,_,Eq.trans (World.drewN_drewN _ _ _) (congrArg (World.drewN _) (Nat.add_assoc _ _ _))⟩);have p267 : 0 ≤ (x5_1 : Int):=Up.od;have q267 : x5_1 < (l1.length : Int):=Up.od;obtain ⟨ad267,A267_3,c267_3,A267_4,c267_4,e267,hx267_0,hx267_1,hx267_2,hx267_3,hx267_4,hl267_3,hi267_3,hl267_4,hi267_4⟩:=at_T55 HR1.out x5_1 p267 q267;obtain rfl : ad265 = ad267:=(by injection e267);replace hx267_0:=Up.hc HB hx267_0;replace hx267_1:=Up.hc HB hx267_1;replace hx267_2:=Up.hc HB hx267_2;replace hx267_3:=Up.hc HB hx267_3;replace hx267_4:=Up.hc HB hx267_4;have HR267_3:=Aside0.mk hi267_3;have HC267_3:=Aside0.mk hl267_3;clear hi267_3 hl267_3;have HR267_4:=Aside0.mk hi267_4;have HC267_4:=Aside0.mk hl267_4;clear hi267_4 hl267_4;replace p267:=eq_true p267;replace q267:=eq_true q267;have ea_:=Option.some.inj (hx265_3.symm.trans hx267_3);injection ea_ with ea_ en_ ec_;subst ea_;subst ec_;clear en_;have ea_:=Option.some.inj (hx265_4.symm.trans hx267_4);injection ea_ with ea_ en_ ec_;subst ea_;subst ec_;clear en_) | (go_at_call 103;(with_reducible refine (spec_l9Kind.calls k1 _ _ l0 ((rd_T55 l1 x5_1).f1.f0) ((rd_T55 l1 x5_1).f1.f1) _ _ ((rd_T55 l1 x5_1).f1.f2) _ _ ((rd_T55 l1 x5_1).f1.f3) t268 _ ?side1 ?side2 ?side3 ?side4 ?side5 ?side6 A8.out).mono ?_);(case side1 => repeat (first | exact (Kd.C_below HR0.out (Up.Bup HB)) | (with_reducible refine Kd.C_alloc ?_ _) | (with_reducible refine Kd.C_drewN ?_ _) | (with_reducible refine Kd.C_drew ?_)));(case side2 => exact HC0.out);(case side3 => repeat (first | exact (Kd.C_below HR267_3.out (Up.Bup HB)) | (with_reducible refine Kd.C_alloc ?_ _) | (with_reducible refine Kd.C_drewN ?_ _) | (with_reducible refine Kd.C_drew ?_)));(case side4 => exact HC267_3.out);(case side5 => repeat (first | exact (Kd.C_below HR267_4.out (Up.Bup HB)) | (with_reducible refine Kd.C_alloc ?_ _) | (with_reducible refine Kd.C_drewN ?_ _) | (with_reducible refine Kd.C_drew ?_)));(case side6 => exact HC267_4.out);rintro e w9 ⟨rfl,hb⟩;have n0_:=Up.BB HB hb;clear HB;have HB:=n0_;clear n0_;(try clear hb);(try clear hb2);(try clear hk);(try clear hi)));try go_wp2_with (first | (go_at_call 97;(with_reducible refine (spec_l6In.calls ((rd_T55 l1 x5_1).f0) 0 3 true _ A6.out).mono ?_);rintro e w' ⟨rfl,⟨nd,rfl⟩⟩;(try first | exact ⟨rfl,_,World.drewN_drewN _ _ _⟩ | exact ⟨rfl,_,Eq.trans (World.drewN_drewN _ _ _) (congrArg (World.drewN _) (Nat.add_assoc _ _ _))⟩);have p267 : 0 ≤ (x5_1 : Int):=Up.od;have q267 : x5_1 < (l1.length : Int):=Up.od;obtain ⟨ad267,A267_3,c267_3,A267_4,c267_4,e267,hx267_0,hx267_1,hx267_2,hx267_3,hx267_4,hl267_3,hi267_3,hl267_4,hi267_4⟩:=at_T55 HR1.out x5_1 p267 q267;obtain rfl : ad265 = ad267:=(by injection e267);replace hx267_0:=Up.hc HB hx267_0;replace hx267_1:=Up.hc HB hx267_1;replace hx267_2:=Up.hc HB hx267_2;replace hx267_3:=Up.hc HB hx267_3;replace hx267_4:=Up.hc HB hx267_4;have HR267_3:=Aside0.mk hi267_3;have HC267_3:=Aside0.mk hl267_3;clear hi267_3 hl267_3;have HR267_4:=Aside0.mk hi267_4;have HC267_4:=Aside0.mk hl267_4;clear hi267_4 hl267_4;replace p267:=eq_true p267;replace q267:=eq_true q267;have ea_:=Option.some.inj (hx265_3.symm.trans hx267_3);injection ea_ with ea_ en_ ec_;subst ea_;subst ec_;clear en_;have ea_:=Option.some.inj (hx265_4.symm.trans hx267_4);injection ea_ with ea_ en_ ec_;subst ea_;subst ec_;clear en_) | (go_at_call 103;(with_reducible refine (spec_l9Kind.calls k1 _ _ l0 ((rd_T55 l1 x5_1).f1.f0) ((rd_T55 l1 x5_1).f1.f1) _ _ ((rd_T55 l1 x5_1).f1.f2) _ _ ((rd_T55 l1 x5_1).f1.f3) t268 _ ?side1 ?side2 ?side3 ?side4 ?side5 ?side6 A8.out).mono ?_);(case side1 => repeat (first | exact (Kd.C_below HR0.out (Up.Bup HB)) | (with_reducible refine Kd.C_alloc ?_ _) | (with_reducible refine Kd.C_drewN ?_ _) | (with_reducible refine Kd.C_drew ?_)));(case side2 => exact HC0.out);(case side3 => repeat (first | exact (Kd.C_below HR267_3.out (Up.Bup HB)) | (with_reducible refine Kd.C_alloc ?_ _) | (with_reducible refine Kd.C_drewN ?_ _) | (with_reducible refine Kd.C_drew ?_)));(case side4 => exact HC267_3.out);(case side5 => repeat (first | exact (Kd.C_below HR267_4.out (Up.Bup HB)) | (with_reducible refine Kd.C_alloc ?_ _) | (with_reducible refine Kd.C_drewN ?_ _) | (with_reducible refine Kd.C_drew ?_)));(case side6 => exact HC267_4.out);rintro e w9 ⟨rfl,hb⟩;have n0_:=Up.BB HB hb;clear HB;have HB:=n0_;clear n0_;(try clear hb);(try clear hb2);(try clear hk);(try clear hi))))
       go_meet
       case rel => exact ⟨_,(!t268),(by first | rfl | (simp;done) | (simp [*];done)),H',⟨by have:=HK1.out;first | omega | exact Nat.le_refl _⟩,⟨Up.Bup HB⟩⟩
      ·replace c7:=Bool.eq_false_iff.mpr c7
       subst c7
       have H1 : (spec_l9Ok.j1 k1 l0 l1 x5_1 true) = some r:=by rw [if_neg (show ¬ (false = true) by decide)] at H;exact H
       clear H
       have H:=H1
       clear H1
       have H':=Aside0.mk H
       clear H
       have p265 : 0 ≤ (x5_1 : Int):=Up.od
       have q265 : x5_1 < (l1.length : Int):=Up.od
       obtain ⟨ad265,A265_3,c265_3,A265_4,c265_4,e265,hx265_0,hx265_1,hx265_2,hx265_3,hx265_4,hl265_3,hi265_3,hl265_4,hi265_4⟩:=at_T55 HR1.out x5_1 p265 q265
       cases e265
       replace hx265_0:=Up.hc HB hx265_0
       replace hx265_1:=Up.hc HB hx265_1
       replace hx265_2:=Up.hc HB hx265_2
       replace hx265_3:=Up.hc HB hx265_3
       replace hx265_4:=Up.hc HB hx265_4
       have HR265_3:=Aside0.mk hi265_3
       have HC265_3:=Aside0.mk hl265_3
       clear hi265_3 hl265_3
       have HR265_4:=Aside0.mk hi265_4
       have HC265_4:=Aside0.mk hl265_4
       clear hi265_4 hl265_4
       replace p265:=eq_true p265
       replace q265:=eq_true q265
       go_wp2_with (first | (go_at_call 97;(with_reducible refine (spec_l6In.calls ((rd_T55 l1 x5_1).f0) 0 3 false _ A6.out).mono ?_);rintro e w' ⟨rfl,⟨nd,rfl⟩⟩;(try first | exact ⟨rfl,_,World.drewN_drewN _ _ _⟩ | exact ⟨rfl,_,Eq.trans (World.drewN_drewN _ _ _) (congrArg (World.drewN _) (Nat.add_assoc _ _ _))⟩)))
       repeat (go_quiet (first | (go_at_call 97;(with_reducible refine (spec_l6In.calls ((rd_T55 l1 x5_1).f0) 0 3 false _ A6.out).mono ?_);rintro e w' ⟨rfl,⟨nd,rfl⟩⟩;(try first | exact ⟨rfl,_,World.drewN_drewN _ _ _⟩ | exact ⟨rfl,_,Eq.trans (World.drewN_drewN _ _ _) (congrArg (World.drewN _) (Nat.add_assoc _ _ _))⟩)));try go_wp2_with (first | (go_at_call 97;(with_reducible refine (spec_l6In.calls ((rd_T55 l1 x5_1).f0) 0 3 false _ A6.out).mono ?_);rintro e w' ⟨rfl,⟨nd,rfl⟩⟩;(try first | exact ⟨rfl,_,World.drewN_drewN _ _ _⟩ | exact ⟨rfl,_,Eq.trans (World.drewN_drewN _ _ _) (congrArg (World.drewN _) (Nat.add_assoc _ _ _))⟩))))
       go_meet
       case rel => exact ⟨_,(true),(by first | rfl | (simp;done) | (simp [*];done)),H',⟨by have:=HK1.out;first | omega | exact Nat.le_refl _⟩,⟨Up.Bup HB⟩⟩
     ·rw [if_neg c5] at H
      exact absurd H (by simp)
    case rest =>
     clear HC4
     try clear c1
     try clear c2
     try clear p2
     try clear q2
     try clear hx2
     try clear c3
     try clear c3b0
     try clear c5
     try clear c5b0
     try clear c6
     try clear c7
     try clear hx265_0
     try clear hx265_1
     try clear hx265_2
     try clear hx265_3
     try clear hx265_4
     try clear hx267_0
     try clear hx267_1
     try clear hx267_2
     try clear hx267_3
     try clear hx267_4
     try clear p2
     try clear p265
     try clear p267
     try clear q265
     try clear q267
     obtain ⟨kq,x28_3,rfl,HA,HJ3,HB⟩:=hcut
     cases kq with
     | zero => exact absurd HA.out (by simp [spec_l9Ok.j1])
     | succ kj3 =>
      have H:=HA.out
      clear HA
      simp only [spec_l9Ok.j1] at H
      by_cases c10 : x28_3 = true
      ·subst c10
       have H1 : (some false) = some r:=by rw [if_pos rfl] at H;exact H
       clear H
       have H:=H1
       clear H1
       obtain rfl:=Option.some.inj H
       go_wp2
       repeat (go_quiet (fail);try go_wp2)
       go_ret
       exact Up.e1 (Up.Bup HB)
      ·replace c10:=Bool.eq_false_iff.mpr c10
       subst c10
       have H1 : (if x5_1 > 0 then (if 0 ≤ (wrap64 (x5_1 - 1)) then (if (wrap64 (x5_1 - 1)) < (l1.length : Int) then (if 0 ≤ x5_1 then (if x5_1 < (l1.length : Int) then (if ((rd_T55 l1 (wrap64 (x5_1 - 1))).f0) > ((rd_T55 l1 x5_1).f0) then (some false) else (if ((rd_T55 l1 (wrap64 (x5_1 - 1))).f0) = ((rd_T55 l1 x5_1).f0) then (if ((Op.bytesLess (((rd_T55 l1 (wrap64 (x5_1 - 1))).f1.f0).toList) (((rd_T55 l1 x5_1).f1.f0).toList)) = true) then (spec_l9Ok.l0 kj3 l0 l1 (wrap64 (x5_1 + 1))) else (some false)) else (spec_l9Ok.l0 kj3 l0 l1 (wrap64 (x5_1 + 1))))) else (none)) else (none)) else (none)) else (none)) else (spec_l9Ok.l0 kj3 l0 l1 (wrap64 (x5_1 + 1)))) = some r:=by rw [if_neg (show ¬ (false = true) by decide)] at H;exact H
       clear H
       have H:=H1
       clear H1
       by_cases c11 : x5_1 > 0
       ·rw [if_pos c11] at H
        have c11b0 : decide (0 < x5_1) = true:=decide_eq_true c11
        clear c11
        obtain ⟨ji12,hji12⟩ : ∃ j_ : Int,(wrap64 (x5_1 - 1)) = j_:=⟨_,rfl⟩
        replace H : (if 0 ≤ (ji12) then (if (ji12) < (l1.length : Int) then (if 0 ≤ x5_1 then (if x5_1 < (l1.length : Int) then (if ((rd_T55 l1 (ji12)).f0) > ((rd_T55 l1 x5_1).f0) then (some false) else (if ((rd_T55 l1 (ji12)).f0) = ((rd_T55 l1 x5_1).f0) then (if ((Op.bytesLess (((rd_T55 l1 (ji12)).f1.f0).toList) (((rd_T55 l1 x5_1).f1.f0).toList)) = true) then (spec_l9Ok.l0 kj3 l0 l1 (wrap64 (x5_1 + 1))) else (some false)) else (spec_l9Ok.l0 kj3 l0 l1 (wrap64 (x5_1 + 1))))) else (none)) else (none)) else (none)) else (none)) = some r:=by first | (rw [hji12] at H;exact H) | (simp only [hji12] at H ⊢;exact H)
        have hji12w : (IntKind.i64.wrap (x5_1 - 1)) = ji12:=(i64_w _).trans hji12
        by_cases c13 : 0 ≤ (ji12)
        ·rw [if_pos c13] at H
         have c13b0 : decide (0 ≤ (ji12)) = true:=decide_eq_true c13
         clear c13
         by_cases c14 : (ji12) < (l1.length : Int)
         ·rw [if_pos c14] at H
          have c14b0 : decide ((ji12) < (l1.length : Int)) = true:=decide_eq_true c14
          clear c14
          by_cases c15 : 0 ≤ x5_1
          ·rw [if_pos c15] at H
           have c15b0 : decide (0 ≤ x5_1) = true:=decide_eq_true c15
           clear c15
           by_cases c16 : x5_1 < (l1.length : Int)
           ·rw [if_pos c16] at H
            have c16b0 : decide (x5_1 < (l1.length : Int)) = true:=decide_eq_true c16
            clear c16
            by_cases c17 : ((rd_T55 l1 (ji12)).f0) > ((rd_T55 l1 x5_1).f0)
            ·rw [if_pos c17] at H
             have c17b0 : decide (((rd_T55 l1 x5_1).f0) < ((rd_T55 l1 (ji12)).f0)) = true:=decide_eq_true c17
             clear c17
             obtain rfl:=Option.some.inj H
             have p269 : 0 ≤ ((ji12) : Int):=Up.od
             have q269 : (ji12) < (l1.length : Int):=Up.od
             obtain ⟨ad269,A269_3,c269_3,A269_4,c269_4,e269,hx269_0,hx269_1,hx269_2,hx269_3,hx269_4,hl269_3,hi269_3,hl269_4,hi269_4⟩:=at_T55 HR1.out (ji12) p269 q269
             cases e269
             replace hx269_0:=Up.hc HB hx269_0
             replace hx269_1:=Up.hc HB hx269_1
             replace hx269_2:=Up.hc HB hx269_2
             replace hx269_3:=Up.hc HB hx269_3
             replace hx269_4:=Up.hc HB hx269_4
             have HR269_3:=Aside0.mk hi269_3
             have HC269_3:=Aside0.mk hl269_3
             clear hi269_3 hl269_3
             have HR269_4:=Aside0.mk hi269_4
             have HC269_4:=Aside0.mk hl269_4
             clear hi269_4 hl269_4
             replace p269:=eq_true p269
             replace q269:=eq_true q269
             have p270 : 0 ≤ (x5_1 : Int):=Up.od
             have q270 : x5_1 < (l1.length : Int):=Up.od
             obtain ⟨ad270,A270_3,c270_3,A270_4,c270_4,e270,hx270_0,hx270_1,hx270_2,hx270_3,hx270_4,hl270_3,hi270_3,hl270_4,hi270_4⟩:=at_T55 HR1.out x5_1 p270 q270
             obtain rfl : ad269 = ad270:=(by injection e270)
             replace hx270_0:=Up.hc HB hx270_0
             replace hx270_1:=Up.hc HB hx270_1
             replace hx270_2:=Up.hc HB hx270_2
             replace hx270_3:=Up.hc HB hx270_3
             replace hx270_4:=Up.hc HB hx270_4
             have HR270_3:=Aside0.mk hi270_3
             have HC270_3:=Aside0.mk hl270_3
             clear hi270_3 hl270_3
             have HR270_4:=Aside0.mk hi270_4
             have HC270_4:=Aside0.mk hl270_4
             clear hi270_4 hl270_4
             replace p270:=eq_true p270
             replace q270:=eq_true q270
             go_wp2
             repeat (go_quiet (fail);try go_wp2)
             go_ret
             exact ⟨by first | rfl | (simp [errW_none,errW_some] <;> rfl) | (simp only [← hji12];first | rfl | (simp [errW_none,errW_some] <;> rfl)) | (simp [*,errW_none,errW_some] <;> rfl),Up.Bup HB⟩
            ·rw [if_neg c17] at H
             have c17b0 : decide (((rd_T55 l1 x5_1).f0) < ((rd_T55 l1 (ji12)).f0)) = false:=decide_eq_false c17
             clear c17
             by_cases c18 : ((rd_T55 l1 (ji12)).f0) = ((rd_T55 l1 x5_1).f0)
             ·rw [if_pos c18] at H
              have c18b0 : (((rd_T55 l1 (ji12)).f0) == ((rd_T55 l1 x5_1).f0)) = true:=beq_iff_eq.mpr c18
              have c18b1 : (((rd_T55 l1 (ji12)).f0) != ((rd_T55 l1 x5_1).f0)) = false:=bne_eq_false_iff_eq.mpr c18
              clear c18
              by_cases c19 : ((Op.bytesLess (((rd_T55 l1 (ji12)).f1.f0).toList) (((rd_T55 l1 x5_1).f1.f0).toList)) = true)
              ·rw [if_pos c19] at H
               have c19b0 : (Op.bytesLess (((rd_T55 l1 (ji12)).f1.f0).toList) (((rd_T55 l1 x5_1).f1.f0).toList)) = true:=c19
               clear c19
               have H':=Aside0.mk H
               clear H
               have p269 : 0 ≤ ((ji12) : Int):=Up.od
               have q269 : (ji12) < (l1.length : Int):=Up.od
               obtain ⟨ad269,A269_3,c269_3,A269_4,c269_4,e269,hx269_0,hx269_1,hx269_2,hx269_3,hx269_4,hl269_3,hi269_3,hl269_4,hi269_4⟩:=at_T55 HR1.out (ji12) p269 q269
               cases e269
               replace hx269_0:=Up.hc HB hx269_0
               replace hx269_1:=Up.hc HB hx269_1
               replace hx269_2:=Up.hc HB hx269_2
               replace hx269_3:=Up.hc HB hx269_3
               replace hx269_4:=Up.hc HB hx269_4
               have HR269_3:=Aside0.mk hi269_3
               have HC269_3:=Aside0.mk hl269_3
               clear hi269_3 hl269_3
               have HR269_4:=Aside0.mk hi269_4
               have HC269_4:=Aside0.mk hl269_4
               clear hi269_4 hl269_4
               replace p269:=eq_true p269
               replace q269:=eq_true q269
               have p270 : 0 ≤ (x5_1 : Int):=Up.od
               have q270 : x5_1 < (l1.length : Int):=Up.od
               obtain ⟨ad270,A270_3,c270_3,A270_4,c270_4,e270,hx270_0,hx270_1,hx270_2,hx270_3,hx270_4,hl270_3,hi270_3,hl270_4,hi270_4⟩:=at_T55 HR1.out x5_1 p270 q270
               obtain rfl : ad269 = ad270:=(by injection e270)
               replace hx270_0:=Up.hc HB hx270_0
               replace hx270_1:=Up.hc HB hx270_1
               replace hx270_2:=Up.hc HB hx270_2
               replace hx270_3:=Up.hc HB hx270_3
               replace hx270_4:=Up.hc HB hx270_4
               have HR270_3:=Aside0.mk hi270_3
               have HC270_3:=Aside0.mk hl270_3
               clear hi270_3 hl270_3
               have HR270_4:=Aside0.mk hi270_4
               have HC270_4:=Aside0.mk hl270_4
               clear hi270_4 hl270_4
               replace p270:=eq_true p270
               replace q270:=eq_true q270
               have p271 : 0 ≤ ((ji12) : Int):=Up.od
               have q271 : (ji12) < (l1.length : Int):=Up.od
               obtain ⟨ad271,A271_3,c271_3,A271_4,c271_4,e271,hx271_0,hx271_1,hx271_2,hx271_3,hx271_4,hl271_3,hi271_3,hl271_4,hi271_4⟩:=at_T55 HR1.out (ji12) p271 q271
               obtain rfl : ad269 = ad271:=(by injection e271)
               replace hx271_0:=Up.hc HB hx271_0
               replace hx271_1:=Up.hc HB hx271_1
               replace hx271_2:=Up.hc HB hx271_2
               replace hx271_3:=Up.hc HB hx271_3
               replace hx271_4:=Up.hc HB hx271_4
               have HR271_3:=Aside0.mk hi271_3
               have HC271_3:=Aside0.mk hl271_3
               clear hi271_3 hl271_3
               have HR271_4:=Aside0.mk hi271_4
               have HC271_4:=Aside0.mk hl271_4
               clear hi271_4 hl271_4
               replace p271:=eq_true p271
               replace q271:=eq_true q271
               have ea_:=Option.some.inj (hx269_3.symm.trans hx271_3)
               injection ea_ with ea_ en_ ec_
               subst ea_
               subst ec_
               clear en_
               have ea_:=Option.some.inj (hx269_4.symm.trans hx271_4)
               injection ea_ with ea_ en_ ec_
               subst ea_
               subst ec_
               clear en_
               have p272 : 0 ≤ (x5_1 : Int):=Up.od
               have q272 : x5_1 < (l1.length : Int):=Up.od
               obtain ⟨ad272,A272_3,c272_3,A272_4,c272_4,e272,hx272_0,hx272_1,hx272_2,hx272_3,hx272_4,hl272_3,hi272_3,hl272_4,hi272_4⟩:=at_T55 HR1.out x5_1 p272 q272
               obtain rfl : ad269 = ad272:=(by injection e272)
               replace hx272_0:=Up.hc HB hx272_0
               replace hx272_1:=Up.hc HB hx272_1
               replace hx272_2:=Up.hc HB hx272_2
               replace hx272_3:=Up.hc HB hx272_3
               replace hx272_4:=Up.hc HB hx272_4
               have HR272_3:=Aside0.mk hi272_3
               have HC272_3:=Aside0.mk hl272_3
               clear hi272_3 hl272_3
               have HR272_4:=Aside0.mk hi272_4
               have HC272_4:=Aside0.mk hl272_4
               clear hi272_4 hl272_4
               replace p272:=eq_true p272
               replace q272:=eq_true q272
               have ea_:=Option.some.inj (hx270_3.symm.trans hx272_3)
               injection ea_ with ea_ en_ ec_
               subst ea_
               subst ec_
               clear en_
               have ea_:=Option.some.inj (hx270_4.symm.trans hx272_4)
               injection ea_ with ea_ en_ ec_
               subst ea_
               subst ec_
               clear en_
               have p273 : 0 ≤ ((ji12) : Int):=Up.od
               have q273 : (ji12) < (l1.length : Int):=Up.od
               obtain ⟨ad273,A273_3,c273_3,A273_4,c273_4,e273,hx273_0,hx273_1,hx273_2,hx273_3,hx273_4,hl273_3,hi273_3,hl273_4,hi273_4⟩:=at_T55 HR1.out (ji12) p273 q273
               obtain rfl : ad269 = ad273:=(by injection e273)
               replace hx273_0:=Up.hc HB hx273_0
               replace hx273_1:=Up.hc HB hx273_1
               replace hx273_2:=Up.hc HB hx273_2
               replace hx273_3:=Up.hc HB hx273_3
               replace hx273_4:=Up.hc HB hx273_4
               have HR273_3:=Aside0.mk hi273_3
               have HC273_3:=Aside0.mk hl273_3
               clear hi273_3 hl273_3
               have HR273_4:=Aside0.mk hi273_4
               have HC273_4:=Aside0.mk hl273_4
               clear hi273_4 hl273_4
               replace p273:=eq_true p273
               replace q273:=eq_true q273
               have ea_:=Option.some.inj (hx269_3.symm.trans hx273_3)
               injection ea_ with ea_ en_ ec_
               subst ea_
               subst ec_
               clear en_
               have ea_:=Option.some.inj (hx269_4.symm.trans hx273_4)
               injection ea_ with ea_ en_ ec_
               subst ea_
               subst ec_
               clear en_
               have p274 : 0 ≤ (x5_1 : Int):=Up.od
               have q274 : x5_1 < (l1.length : Int):=Up.od
               obtain ⟨ad274,A274_3,c274_3,A274_4,c274_4,e274,hx274_0,hx274_1,hx274_2,hx274_3,hx274_4,hl274_3,hi274_3,hl274_4,hi274_4⟩:=at_T55 HR1.out x5_1 p274 q274
               obtain rfl : ad269 = ad274:=(by injection e274)
               replace hx274_0:=Up.hc HB hx274_0
               replace hx274_1:=Up.hc HB hx274_1
               replace hx274_2:=Up.hc HB hx274_2
               replace hx274_3:=Up.hc HB hx274_3
               replace hx274_4:=Up.hc HB hx274_4
               have HR274_3:=Aside0.mk hi274_3
               have HC274_3:=Aside0.mk hl274_3
               clear hi274_3 hl274_3
               have HR274_4:=Aside0.mk hi274_4
               have HC274_4:=Aside0.mk hl274_4
               clear hi274_4 hl274_4
               replace p274:=eq_true p274
               replace q274:=eq_true q274
               have ea_:=Option.some.inj (hx270_3.symm.trans hx274_3)
               injection ea_ with ea_ en_ ec_
               subst ea_
               subst ec_
               clear en_
               have ea_:=Option.some.inj (hx270_4.symm.trans hx274_4)
               injection ea_ with ea_ en_ ec_
               subst ea_
               subst ec_
               clear en_
               go_wp2
               repeat (go_quiet (fail);try go_wp2)
               go_roundg kj3
               case measure => have:=HK1.out;have:=HJ3.out;omega
               case rel => exact ⟨(wrap64 (x5_1 + 1)),(by first | rfl | (simp;done) | (simp [*];done)),H',⟨by have:=HK1.out;have:=HJ3.out;omega⟩,⟨Up.Bup HB⟩⟩
              ·rw [if_neg c19] at H
               have c19b0 : (Op.bytesLess (((rd_T55 l1 (ji12)).f1.f0).toList) (((rd_T55 l1 x5_1).f1.f0).toList)) = false:=by simpa using c19
               clear c19
               obtain rfl:=Option.some.inj H
               have p269 : 0 ≤ ((ji12) : Int):=Up.od
               have q269 : (ji12) < (l1.length : Int):=Up.od
               obtain ⟨ad269,A269_3,c269_3,A269_4,c269_4,e269,hx269_0,hx269_1,hx269_2,hx269_3,hx269_4,hl269_3,hi269_3,hl269_4,hi269_4⟩:=at_T55 HR1.out (ji12) p269 q269
               cases e269
               replace hx269_0:=Up.hc HB hx269_0
               replace hx269_1:=Up.hc HB hx269_1
               replace hx269_2:=Up.hc HB hx269_2
               replace hx269_3:=Up.hc HB hx269_3
               replace hx269_4:=Up.hc HB hx269_4
               have HR269_3:=Aside0.mk hi269_3
               have HC269_3:=Aside0.mk hl269_3
               clear hi269_3 hl269_3
               have HR269_4:=Aside0.mk hi269_4
               have HC269_4:=Aside0.mk hl269_4
               clear hi269_4 hl269_4
               replace p269:=eq_true p269
               replace q269:=eq_true q269
               have p270 : 0 ≤ (x5_1 : Int):=Up.od
               have q270 : x5_1 < (l1.length : Int):=Up.od
               obtain ⟨ad270,A270_3,c270_3,A270_4,c270_4,e270,hx270_0,hx270_1,hx270_2,hx270_3,hx270_4,hl270_3,hi270_3,hl270_4,hi270_4⟩:=at_T55 HR1.out x5_1 p270 q270
               obtain rfl : ad269 = ad270:=(by injection e270)
               replace hx270_0:=Up.hc HB hx270_0
               replace hx270_1:=Up.hc HB hx270_1
               replace hx270_2:=Up.hc HB hx270_2
               replace hx270_3:=Up.hc HB hx270_3
               replace hx270_4:=Up.hc HB hx270_4
               have HR270_3:=Aside0.mk hi270_3
               have HC270_3:=Aside0.mk hl270_3
               clear hi270_3 hl270_3
               have HR270_4:=Aside0.mk hi270_4
               have HC270_4:=Aside0.mk hl270_4
               clear hi270_4 hl270_4
               replace p270:=eq_true p270
               replace q270:=eq_true q270
               have p271 : 0 ≤ ((ji12) : Int):=Up.od
               have q271 : (ji12) < (l1.length : Int):=Up.od
               obtain ⟨ad271,A271_3,c271_3,A271_4,c271_4,e271,hx271_0,hx271_1,hx271_2,hx271_3,hx271_4,hl271_3,hi271_3,hl271_4,hi271_4⟩:=at_T55 HR1.out (ji12) p271 q271
               obtain rfl : ad269 = ad271:=(by injection e271)
               replace hx271_0:=Up.hc HB hx271_0
               replace hx271_1:=Up.hc HB hx271_1
               replace hx271_2:=Up.hc HB hx271_2
               replace hx271_3:=Up.hc HB hx271_3
               replace hx271_4:=Up.hc HB hx271_4
               have HR271_3:=Aside0.mk hi271_3
               have HC271_3:=Aside0.mk hl271_3
               clear hi271_3 hl271_3
               have HR271_4:=Aside0.mk hi271_4
               have HC271_4:=Aside0.mk hl271_4
               clear hi271_4 hl271_4
               replace p271:=eq_true p271
               replace q271:=eq_true q271
               have ea_:=Option.some.inj (hx269_3.symm.trans hx271_3)
               injection ea_ with ea_ en_ ec_
               subst ea_
               subst ec_
               clear en_
               have ea_:=Option.some.inj (hx269_4.symm.trans hx271_4)
               injection ea_ with ea_ en_ ec_
               subst ea_
               subst ec_
               clear en_
               have p272 : 0 ≤ (x5_1 : Int):=Up.od
               have q272 : x5_1 < (l1.length : Int):=Up.od
               obtain ⟨ad272,A272_3,c272_3,A272_4,c272_4,e272,hx272_0,hx272_1,hx272_2,hx272_3,hx272_4,hl272_3,hi272_3,hl272_4,hi272_4⟩:=at_T55 HR1.out x5_1 p272 q272
               obtain rfl : ad269 = ad272:=(by injection e272)
               replace hx272_0:=Up.hc HB hx272_0
               replace hx272_1:=Up.hc HB hx272_1
               replace hx272_2:=Up.hc HB hx272_2
               replace hx272_3:=Up.hc HB hx272_3
               replace hx272_4:=Up.hc HB hx272_4
               have HR272_3:=Aside0.mk hi272_3
               have HC272_3:=Aside0.mk hl272_3
               clear hi272_3 hl272_3
               have HR272_4:=Aside0.mk hi272_4
               have HC272_4:=Aside0.mk hl272_4
               clear hi272_4 hl272_4
               replace p272:=eq_true p272
               replace q272:=eq_true q272
               have ea_:=Option.some.inj (hx270_3.symm.trans hx272_3)
               injection ea_ with ea_ en_ ec_
               subst ea_
               subst ec_
               clear en_
               have ea_:=Option.some.inj (hx270_4.symm.trans hx272_4)
               injection ea_ with ea_ en_ ec_
               subst ea_
               subst ec_
               clear en_
               have p273 : 0 ≤ ((ji12) : Int):=Up.od
               have q273 : (ji12) < (l1.length : Int):=Up.od
               obtain ⟨ad273,A273_3,c273_3,A273_4,c273_4,e273,hx273_0,hx273_1,hx273_2,hx273_3,hx273_4,hl273_3,hi273_3,hl273_4,hi273_4⟩:=at_T55 HR1.out (ji12) p273 q273
               obtain rfl : ad269 = ad273:=(by injection e273)
               replace hx273_0:=Up.hc HB hx273_0
               replace hx273_1:=Up.hc HB hx273_1
               replace hx273_2:=Up.hc HB hx273_2
               replace hx273_3:=Up.hc HB hx273_3
               replace hx273_4:=Up.hc HB hx273_4
               have HR273_3:=Aside0.mk hi273_3
               have HC273_3:=Aside0.mk hl273_3
               clear hi273_3 hl273_3
               have HR273_4:=Aside0.mk hi273_4
               have HC273_4:=Aside0.mk hl273_4
               clear hi273_4 hl273_4
               replace p273:=eq_true p273
               replace q273:=eq_true q273
               have ea_:=Option.some.inj (hx269_3.symm.trans hx273_3)
               injection ea_ with ea_ en_ ec_
               subst ea_
               subst ec_
               clear en_
               have ea_:=Option.some.inj (hx269_4.symm.trans hx273_4)
               injection ea_ with ea_ en_ ec_
               subst ea_
               subst ec_
               clear en_
               have p274 : 0 ≤ (x5_1 : Int):=Up.od
               have q274 : x5_1 < (l1.length : Int):=Up.od
               obtain ⟨ad274,A274_3,c274_3,A274_4,c274_4,e274,hx274_0,hx274_1,hx274_2,hx274_3,hx274_4,hl274_3,hi274_3,hl274_4,hi274_4⟩:=at_T55 HR1.out x5_1 p274 q274
               obtain rfl : ad269 = ad274:=(by injection e274)
               replace hx274_0:=Up.hc HB hx274_0
               replace hx274_1:=Up.hc HB hx274_1
               replace hx274_2:=Up.hc HB hx274_2
               replace hx274_3:=Up.hc HB hx274_3
               replace hx274_4:=Up.hc HB hx274_4
               have HR274_3:=Aside0.mk hi274_3
               have HC274_3:=Aside0.mk hl274_3
               clear hi274_3 hl274_3
               have HR274_4:=Aside0.mk hi274_4
               have HC274_4:=Aside0.mk hl274_4
               clear hi274_4 hl274_4
               replace p274:=eq_true p274
               replace q274:=eq_true q274
               have ea_:=Option.some.inj (hx270_3.symm.trans hx274_3)
               injection ea_ with ea_ en_ ec_
               subst ea_
               subst ec_
               clear en_
               have ea_:=Option.some.inj (hx270_4.symm.trans hx274_4)
               injection ea_ with ea_ en_ ec_
               subst ea_
               subst ec_
               clear en_
               go_wp2
               repeat (go_quiet (fail);try go_wp2)
               go_ret
               exact ⟨by first | rfl | (simp [errW_none,errW_some] <;> rfl) | (simp only [← hji12];first | rfl | (simp [errW_none,errW_some] <;> rfl)) | (simp [*,errW_none,errW_some] <;> rfl),Up.Bup HB⟩
             ·rw [if_neg c18] at H
              have c18b0 : (((rd_T55 l1 (ji12)).f0) == ((rd_T55 l1 x5_1).f0)) = false:=beq_eq_false_iff_ne.mpr c18
              have c18b1 : (((rd_T55 l1 (ji12)).f0) != ((rd_T55 l1 x5_1).f0)) = true:=bne_iff_ne.mpr c18
              have H':=Aside0.mk H
              clear H
              have p269 : 0 ≤ ((ji12) : Int):=Up.od
              have q269 : (ji12) < (l1.length : Int):=Up.od
              obtain ⟨ad269,A269_3,c269_3,A269_4,c269_4,e269,hx269_0,hx269_1,hx269_2,hx269_3,hx269_4,hl269_3,hi269_3,hl269_4,hi269_4⟩:=at_T55 HR1.out (ji12) p269 q269
              cases e269
              replace hx269_0:=Up.hc HB hx269_0
              replace hx269_1:=Up.hc HB hx269_1
              replace hx269_2:=Up.hc HB hx269_2
              replace hx269_3:=Up.hc HB hx269_3
              replace hx269_4:=Up.hc HB hx269_4
              have HR269_3:=Aside0.mk hi269_3
              have HC269_3:=Aside0.mk hl269_3
              clear hi269_3 hl269_3
              have HR269_4:=Aside0.mk hi269_4
              have HC269_4:=Aside0.mk hl269_4
              clear hi269_4 hl269_4
              replace p269:=eq_true p269
              replace q269:=eq_true q269
              have p270 : 0 ≤ (x5_1 : Int):=Up.od
              have q270 : x5_1 < (l1.length : Int):=Up.od
              obtain ⟨ad270,A270_3,c270_3,A270_4,c270_4,e270,hx270_0,hx270_1,hx270_2,hx270_3,hx270_4,hl270_3,hi270_3,hl270_4,hi270_4⟩:=at_T55 HR1.out x5_1 p270 q270
              obtain rfl : ad269 = ad270:=(by injection e270)
              replace hx270_0:=Up.hc HB hx270_0
              replace hx270_1:=Up.hc HB hx270_1
              replace hx270_2:=Up.hc HB hx270_2
              replace hx270_3:=Up.hc HB hx270_3
              replace hx270_4:=Up.hc HB hx270_4
              have HR270_3:=Aside0.mk hi270_3
              have HC270_3:=Aside0.mk hl270_3
              clear hi270_3 hl270_3
              have HR270_4:=Aside0.mk hi270_4
              have HC270_4:=Aside0.mk hl270_4
              clear hi270_4 hl270_4
              replace p270:=eq_true p270
              replace q270:=eq_true q270
              have p271 : 0 ≤ ((ji12) : Int):=Up.od
              have q271 : (ji12) < (l1.length : Int):=Up.od
              obtain ⟨ad271,A271_3,c271_3,A271_4,c271_4,e271,hx271_0,hx271_1,hx271_2,hx271_3,hx271_4,hl271_3,hi271_3,hl271_4,hi271_4⟩:=at_T55 HR1.out (ji12) p271 q271
              obtain rfl : ad269 = ad271:=(by injection e271)
              replace hx271_0:=Up.hc HB hx271_0
              replace hx271_1:=Up.hc HB hx271_1
              replace hx271_2:=Up.hc HB hx271_2
              replace hx271_3:=Up.hc HB hx271_3
              replace hx271_4:=Up.hc HB hx271_4
              have HR271_3:=Aside0.mk hi271_3
              have HC271_3:=Aside0.mk hl271_3
              clear hi271_3 hl271_3
              have HR271_4:=Aside0.mk hi271_4
              have HC271_4:=Aside0.mk hl271_4
              clear hi271_4 hl271_4
              replace p271:=eq_true p271
              replace q271:=eq_true q271
              have ea_:=Option.some.inj (hx269_3.symm.trans hx271_3)
              injection ea_ with ea_ en_ ec_
              subst ea_
              subst ec_
              clear en_
              have ea_:=Option.some.inj (hx269_4.symm.trans hx271_4)
              injection ea_ with ea_ en_ ec_
              subst ea_
              subst ec_
              clear en_
              have p272 : 0 ≤ (x5_1 : Int):=Up.od
              have q272 : x5_1 < (l1.length : Int):=Up.od
              obtain ⟨ad272,A272_3,c272_3,A272_4,c272_4,e272,hx272_0,hx272_1,hx272_2,hx272_3,hx272_4,hl272_3,hi272_3,hl272_4,hi272_4⟩:=at_T55 HR1.out x5_1 p272 q272
              obtain rfl : ad269 = ad272:=(by injection e272)
              replace hx272_0:=Up.hc HB hx272_0
              replace hx272_1:=Up.hc HB hx272_1
              replace hx272_2:=Up.hc HB hx272_2
              replace hx272_3:=Up.hc HB hx272_3
              replace hx272_4:=Up.hc HB hx272_4
              have HR272_3:=Aside0.mk hi272_3
              have HC272_3:=Aside0.mk hl272_3
              clear hi272_3 hl272_3
              have HR272_4:=Aside0.mk hi272_4
              have HC272_4:=Aside0.mk hl272_4
              clear hi272_4 hl272_4
              replace p272:=eq_true p272
              replace q272:=eq_true q272
              have ea_:=Option.some.inj (hx270_3.symm.trans hx272_3)
              injection ea_ with ea_ en_ ec_
              subst ea_
              subst ec_
              clear en_
              have ea_:=Option.some.inj (hx270_4.symm.trans hx272_4)
              injection ea_ with ea_ en_ ec_
              subst ea_
              subst ec_
              clear en_
              go_wp2
              repeat (go_quiet (fail);try go_wp2)
              go_roundg kj3
              case measure => have:=HK1.out;have:=HJ3.out;omega
              case rel => exact ⟨(wrap64 (x5_1 + 1)),(by first | rfl | (simp;done) | (simp [*];done)),H',⟨by have:=HK1.out;have:=HJ3.out;omega⟩,⟨Up.Bup HB⟩⟩
           ·rw [if_neg c16] at H
            exact absurd H (by simp)
          ·rw [if_neg c15] at H
           exact absurd H (by simp)
         ·rw [if_neg c14] at H
          exact absurd H (by simp)
        ·rw [if_neg c13] at H
         exact absurd H (by simp)
       ·rw [if_neg c11] at H
        have c11b0 : decide (0 < x5_1) = false:=decide_eq_false c11
        clear c11
        have H':=Aside0.mk H
        clear H
        go_wp2
        repeat (go_quiet (fail);try go_wp2)
        go_roundg kj3
        case measure => have:=HK1.out;have:=HJ3.out;omega
        case rel => exact ⟨(wrap64 (x5_1 + 1)),(by first | rfl | (simp;done) | (simp [*];done)),H',⟨by have:=HK1.out;have:=HJ3.out;omega⟩,⟨Up.Bup HB⟩⟩
   ·rw [if_neg c3] at H
    have c3b0 : decide (x5_1 < (l1.length : Int)) = false:=decide_eq_false c3
    clear c3
    obtain rfl:=Option.some.inj H
    go_wp2
    repeat (go_quiet (fail);try go_wp2)
    go_ret
    exact Up.e1 (Up.Bup HB)

/-! ### spec_VaultsOk: function 27 -/
def spec_VaultsOk.f (k : Nat) (l0 : List (List (S113))) (l1 : List (S55)) : Option (Bool):=(spec_KindsOk.f k l0).bind fun t275 => (if t275 = true then ((spec_l9Ok.f k l0 l1).bind fun t276 => (some t276)) else (some false))
theorem spec_VaultsOk.mono : ∀ a0 a1 k,LeO (spec_VaultsOk.f k a0 a1) (spec_VaultsOk.f (k + 1) a0 a1):=by
 intro a0 a1 k
 unfold spec_VaultsOk.f
 repeat' first
   | (with_reducible exact spec_KindsOk.mono _ _)
   | (with_reducible exact spec_l9Ok.mono _ _ _)
   | (with_reducible exact LeO.refl _)
   | (with_reducible exact LeO.none _)
   | (with_reducible refine LeO.ite ?_ ?_)
   | (with_reducible refine LeO.bind ?_ (fun _ => ?_))
   | exact spec_KindsOk.mono _ _
   | exact spec_l9Ok.mono _ _ _
   | exact LeO.none _
   | refine LeO.ite ?_ ?_
   | refine LeO.bind ?_ (fun _ => ?_)
set_option maxHeartbeats 8000000 in
set_option maxRecDepth 100000 in
theorem spec_VaultsOk.calls (k : Nat) (A0 : Option Addr) (c0 : Nat) (l0 : List (List (S113))) (A1 : Option Addr) (c1 : Nat) (l1 : List (S55)) (r : Bool) (w : World) (hr0 : Kd.C (Kd.slice 113 k113) w A0 l0.length l0) (hc0 : l0.length ≤ c0) (hr1 : Kd.C k55 w A1 l1.length l1) (hc1 : l1.length ≤ c1) (h : spec_VaultsOk.f k l0 l1 = some r) :
  Calls Try.prog 27 #[.slice A0 l0.length c0,.slice A1 l1.length c1] w fun e w' => e = .returned (.bool r) ∧ Below w.heap.size w w':=by
 have HR0:=Aside0.mk hr0
 have HC0:=Aside0.mk hc0
 clear hr0 hc0
 have HR1:=Aside0.mk hr1
 have HC1:=Aside0.mk hc1
 clear hr1 hc1
 have HB:=Aside0.mk (Below.refl w.heap.size w)
 have H : ((spec_KindsOk.f k l0).bind fun t275 => (if t275 = true then ((spec_l9Ok.f k l0 l1).bind fun t276 => (some t276)) else (some false))) = some r:=h
 clear h
 replace H:=Option.bind_eq_some_iff.mp H
 obtain ⟨t275,A30,H⟩:=H
 replace H : (if t275 = true then ((spec_l9Ok.f k l0 l1).bind fun t276 => (some t276)) else (some false)) = some r:=H
 have A3:=Aside0.mk A30
 clear A30
 by_cases c4 : t275 = true
 ·subst c4
  have H1 : ((spec_l9Ok.f k l0 l1).bind fun t276 => (some t276)) = some r:=by rw [if_pos rfl] at H;exact H
  clear H
  have H:=H1
  clear H1
  replace H:=Option.bind_eq_some_iff.mp H
  obtain ⟨t276,A50,H⟩:=H
  replace H : (some t276) = some r:=H
  have A5:=Aside0.mk A50
  clear A50
  obtain rfl:=Option.some.inj H
  go_enter Try.func27,Try.ntmps27
  go_wp2_with (first | ((with_reducible refine gate_callee (f:=56) rfl ?_);refine Up.gl (some 6) Try.func56 #[.slice A0 l0.length c0] ?_;(with_reducible refine (spec_KindsOk.calls k _ _ l0 true _ ?side1 ?side2 A3.out).mono ?_);(case side1 => repeat (first | exact HR0.out | (with_reducible refine Kd.C_alloc ?_ _) | (with_reducible refine Kd.C_drewN ?_ _) | (with_reducible refine Kd.C_drew ?_)));(case side2 => exact HC0.out);rintro e w6 ⟨rfl,hb⟩;refine ⟨_,rfl,?_⟩;have n0_:=Up.BB HB hb;clear HB;have HB:=n0_;clear n0_;(try clear hb);(try clear hb2);(try clear hk);(try clear hi)) | (go_at_call 68;(with_reducible refine (spec_l9Ok.calls k _ _ l0 _ _ l1 t276 _ ?side1 ?side2 ?side3 ?side4 A5.out).mono ?_);(case side1 => exact Up.Cx HR0 HB);(case side2 => exact HC0.out);(case side3 => exact Up.Cx HR1 HB);(case side4 => exact HC1.out);rintro e w7 ⟨rfl,hb⟩;have n0_:=Up.BB HB hb;clear HB;have HB:=n0_;clear n0_;(try clear hb);(try clear hb2);(try clear hk);(try clear hi)))
  go_ret
  exact Up.e1 (Up.Bup HB)
 ·replace c4:=Bool.eq_false_iff.mpr c4
  subst c4
  have H1 : (some false) = some r:=by rw [if_neg (show ¬ (false = true) by decide)] at H;exact H
  clear H
  have H:=H1
  clear H1
  obtain rfl:=Option.some.inj H
  go_enter Try.func27,Try.ntmps27
  go_wp2_with (first | ((with_reducible refine gate_callee (f:=56) rfl ?_);refine Up.gl (some 6) Try.func56 #[.slice A0 l0.length c0] ?_;(with_reducible refine (spec_KindsOk.calls k _ _ l0 false _ ?side1 ?side2 A3.out).mono ?_);(case side1 => repeat (first | exact HR0.out | (with_reducible refine Kd.C_alloc ?_ _) | (with_reducible refine Kd.C_drewN ?_ _) | (with_reducible refine Kd.C_drew ?_)));(case side2 => exact HC0.out);rintro e w8 ⟨rfl,hb⟩;refine ⟨_,rfl,?_⟩;have n0_:=Up.BB HB hb;clear HB;have HB:=n0_;clear n0_;(try clear hb);(try clear hb2);(try clear hk);(try clear hi)))
  go_ret
  exact Up.e1 (Up.Bup HB)

-- told with loop.example/heirlooms/laws.szValue

end Go.Proofs.Ytdgmlakgnbmbbaa.OFnExactVaultsOk
