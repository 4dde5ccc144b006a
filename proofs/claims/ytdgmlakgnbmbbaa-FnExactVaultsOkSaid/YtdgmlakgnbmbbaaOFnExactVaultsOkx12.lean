-- Laid by a program of this session (wip/myprint.py): the kit's print of the functions, contracts of our own among them.
import Derived.Test.YtdgmlakgnbmbbaaOFnExactVaultsOkx0
namespace Go.Proofs.Ytdgmlakgnbmbbaa.OFnExactVaultsOk
open Go.RowKit Go.Proofs.YtdgmlakgnbmbbaaW.PrintWords Go.Proofs.YtdgmlakgnbmbbaaW.PrintLast Go.Proofs.YtdgmlakgnbmbbaaW.PrintMore
attribute [local go_sem] max2_int min2_int max_two min_two max_three min_three max_four min_four   -- for this text's walks alone
set_option linter.unusedVariables false
set_option linter.unusedSimpArgs false

/-! ### laws_szIntS: function 55 -/
def laws_szIntS.f (l0 : List Int) (a1 : Int) : Option (Int):=if (wrap64 (a1 - (l0.length : Int))) < 0 then (some (-1)) else (some (wrap64 (a1 - (l0.length : Int))))
set_option maxHeartbeats 8000000 in
set_option maxRecDepth 100000 in
theorem laws_szIntS.calls (A0 : Option Addr) (c0 : Nat) (l0 : List Int) (a1 : Int) (r : Int) (w : World) (hr0 : Kd.C (Kd.int .i64) w A0 l0.length l0) (hc0 : l0.length ≤ c0) (h : laws_szIntS.f l0 a1 = some r) :
  Calls Try.prog 55 #[.slice A0 l0.length c0,.int .i64 a1] w fun e w' => e = .returned (.int .i64 r) ∧ Drawn0 w w':=by
 have HR0:=Aside0.mk hr0
 have HC0:=Aside0.mk hc0
 clear hr0 hc0
 have H : (if (wrap64 (a1 - (l0.length : Int))) < 0 then (some (-1)) else (some (wrap64 (a1 - (l0.length : Int))))) = some r:=h
 clear h
 by_cases c3 : (wrap64 (a1 - (l0.length : Int))) < 0
 ·rw [if_pos c3] at H
  have c3b0 : decide ((wrap64 (a1 - (l0.length : Int))) < 0) = true:=decide_eq_true c3
  clear c3
  obtain rfl:=Option.some.inj H
  go_enter Try.func55,Try.ntmps55
  go_wp2
  go_ret
  exact Up.e2
 ·rw [if_neg c3] at H
  have c3b0 : decide ((wrap64 (a1 - (l0.length : Int))) < 0) = false:=decide_eq_false c3
  clear c3
  obtain rfl:=Option.some.inj H
  go_enter Try.func55,Try.ntmps55
  go_wp2
  go_ret
  exact Up.e2

/-! ### laws_szValueS: function 54 -/
def laws_szValueS.l0 : Nat → List (S39) → Int → Int → Option (Int)
 | 0,_,_,_ => none
 | k + 1,x0,x1,x5 => if x5 < (x0.length : Int) then (if 0 ≤ x5 then (((fun (a0_0 : ByteArray) (a0_1 : Int) (l0_2 : List (S39)) (l0_3 : List Int) (a1 : Int) => if (wrap64 (a1 - (a0_0.size : Int))) < 0 then (some (-1)) else (((fun (l0 : List (S39)) (a1 : Int) => if (wrap64 (a1 - (l0.length : Int))) < 0 then (some (-1)) else (laws_szValueS.l0 k l0 (wrap64 (a1 - (l0.length : Int))) 0)) l0_2 (wrap64 (a1 - (a0_0.size : Int)))).bind fun t280 => (if t280 < 0 then (some (-1)) else ((laws_szIntS.f l0_3 t280).bind fun t281 => (if t281 < 0 then (some (-1)) else (some t281)))))) ((rd_T39 x0 x5).f0) ((rd_T39 x0 x5).f1) ((rd_T39 x0 x5).f2) ((rd_T39 x0 x5).f3) x1).bind fun t278 => (if t278 < 0 then (some (-1)) else (laws_szValueS.l0 k x0 t278 (wrap64 (x5 + 1))))) else (none)) else (some x1)
def laws_szValueS.f (k : Nat) (l0 : List (S39)) (a1 : Int) : Option (Int):=if (wrap64 (a1 - (l0.length : Int))) < 0 then (some (-1)) else (laws_szValueS.l0 k l0 (wrap64 (a1 - (l0.length : Int))) 0)
def laws_szValue.f (k : Nat) (a0_0 : ByteArray) (a0_1 : Int) (l0_2 : List (S39)) (l0_3 : List Int) (a1 : Int) : Option (Int):=if (wrap64 (a1 - (a0_0.size : Int))) < 0 then (some (-1)) else ((laws_szValueS.f k l0_2 (wrap64 (a1 - (a0_0.size : Int)))).bind fun t280 => (if t280 < 0 then (some (-1)) else ((laws_szIntS.f l0_3 t280).bind fun t281 => (if t281 < 0 then (some (-1)) else (some t281)))))
theorem laws_szValueS.l0_eq (k : Nat) (x0 : List (S39)) (x1 : Int) (x5 : Int) : laws_szValueS.l0 (k + 1) x0 x1 x5 = if x5 < (x0.length : Int) then (if 0 ≤ x5 then ((laws_szValue.f k ((rd_T39 x0 x5).f0) ((rd_T39 x0 x5).f1) ((rd_T39 x0 x5).f2) ((rd_T39 x0 x5).f3) x1).bind fun t278 => (if t278 < 0 then (some (-1)) else (laws_szValueS.l0 k x0 t278 (wrap64 (x5 + 1))))) else (none)) else (some x1):=rfl
theorem laws_szValueS.mono_l : ∀ k,(∀ y0 y1 y2,LeO (laws_szValueS.l0 k y0 y1 y2) (laws_szValueS.l0 (k + 1) y0 y1 y2))
 | 0 => fun _ _ _ r h => by simp [laws_szValueS.l0] at h
 | k + 1 => by
  have ih0:=laws_szValueS.mono_l k
  ·intro y0 y1 y2
   unfold laws_szValueS.l0
   dsimp only
   repeat' first
   | (with_reducible exact ih0 _ _ _)
   | (with_reducible exact LeO.refl _)
   | (with_reducible exact LeO.none _)
   | (with_reducible refine LeO.ite ?_ ?_)
   | (with_reducible refine LeO.bind ?_ (fun _ => ?_))
   | exact ih0 _ _ _
   | exact LeO.none _
   | refine LeO.ite ?_ ?_
   | refine LeO.bind ?_ (fun _ => ?_)
theorem laws_szValueS.mono : ∀ a0 a1 k,LeO (laws_szValueS.f k a0 a1) (laws_szValueS.f (k + 1) a0 a1):=by
 intro a0 a1 k
 have ih0:=laws_szValueS.mono_l k
 unfold laws_szValueS.f
 repeat' first
   | (with_reducible exact ih0 _ _ _)
   | (with_reducible exact LeO.refl _)
   | (with_reducible exact LeO.none _)
   | (with_reducible refine LeO.ite ?_ ?_)
   | (with_reducible refine LeO.bind ?_ (fun _ => ?_))
   | exact ih0 _ _ _
   | exact LeO.none _
   | refine LeO.ite ?_ ?_
   | refine LeO.bind ?_ (fun _ => ?_)
theorem laws_szValue.mono : ∀ a0 a1 a2 a3 a4 k,LeO (laws_szValue.f k a0 a1 a2 a3 a4) (laws_szValue.f (k + 1) a0 a1 a2 a3 a4):=by
 intro a0 a1 a2 a3 a4 k
 unfold laws_szValue.f
 repeat' first
   | (with_reducible exact laws_szValueS.mono _ _ _)
   | (with_reducible exact LeO.refl _)
   | (with_reducible exact LeO.none _)
   | (with_reducible refine LeO.ite ?_ ?_)
   | (with_reducible refine LeO.bind ?_ (fun _ => ?_))
   | exact laws_szValueS.mono _ _ _
   | exact LeO.none _
   | refine LeO.ite ?_ ?_
   | refine LeO.bind ?_ (fun _ => ?_)
/-! ### of laws_szValue: function 19 -/
set_option maxHeartbeats 8000000 in
set_option maxRecDepth 100000 in
theorem laws_szValue.calls_of (k : Nat) (hS_ : ∀ (A0 : Option Addr) (c0 : Nat) (l0 : List (S39)) (a1 : Int) (r : Int) (w : World) (hr0 : Kd.C k39 w A0 l0.length l0) (hc0 : l0.length ≤ c0) (h : laws_szValueS.f k l0 a1 = some r),Calls Try.prog 54 #[.slice A0 l0.length c0,.int .i64 a1] w fun e w' => e = .returned (.int .i64 r) ∧ Below w.heap.size w w') (a0_0 : ByteArray) (a0_1 : Int) (A0_2 : Option Addr) (c0_2 : Nat) (l0_2 : List (S39)) (A0_3 : Option Addr) (c0_3 : Nat) (l0_3 : List Int) (a1 : Int) (r : Int) (w : World) (hr0_2 : Kd.C k39 w A0_2 l0_2.length l0_2) (hc0_2 : l0_2.length ≤ c0_2) (hr0_3 : Kd.C (Kd.int .i64) w A0_3 l0_3.length l0_3) (hc0_3 : l0_3.length ≤ c0_3) (h : laws_szValue.f k a0_0 a0_1 l0_2 l0_3 a1 = some r) :
  Calls Try.prog 19 #[.agg #[.string a0_0,.int .i64 a0_1,.slice A0_2 l0_2.length c0_2,.slice A0_3 l0_3.length c0_3],.int .i64 a1] w fun e w' => e = .returned (.int .i64 r) ∧ Below w.heap.size w w':=by
 have hu39:=Try.underlying39
 have HR0_2:=Aside0.mk hr0_2
 have HC0_2:=Aside0.mk hc0_2
 clear hr0_2 hc0_2
 have HR0_3:=Aside0.mk hr0_3
 have HC0_3:=Aside0.mk hc0_3
 clear hr0_3 hc0_3
 have HB:=Aside0.mk (Below.refl w.heap.size w)
 have H : (if (wrap64 (a1 - (a0_0.size : Int))) < 0 then (some (-1)) else ((laws_szValueS.f k l0_2 (wrap64 (a1 - (a0_0.size : Int)))).bind fun t280 => (if t280 < 0 then (some (-1)) else ((laws_szIntS.f l0_3 t280).bind fun t281 => (if t281 < 0 then (some (-1)) else (some t281)))))) = some r:=h
 clear h
 by_cases c3 : (wrap64 (a1 - (a0_0.size : Int))) < 0
 ·rw [if_pos c3] at H
  have c3b0 : decide ((wrap64 (a1 - (a0_0.size : Int))) < 0) = true:=decide_eq_true c3
  clear c3
  obtain rfl:=Option.some.inj H
  go_enter Try.func19,Try.ntmps19
  go_wp2_with (first | ((with_reducible refine gate_dst (N:=2) rfl ?_);refine Up.bx 2 39 #[.string a0_0,.int .i64 a0_1,.slice A0_2 l0_2.length c0_2,.slice A0_3 l0_3.length c0_3] ?_;intro gb279 hg w4 hbox hb;have n0_:=Up.BB HB hb;have n1_:=Aside0.mk (hbox);have n2_:=Up.gw hg HB;have n3_:=Up.gw hg HB;clear HB;have HB:=n0_;have BK279:=n1_;have GW279:=n2_;have GE279:=n3_;clear n0_ n1_ n2_ n3_ hb hbox hg;have hcz5_0:=Up.c0 BK279;have hcz5_1:=Up.c1 BK279;have hcz5_2:=Up.c2 BK279;have hcz5_3:=Up.c3 BK279;have hfz5_0:=blk_frozen BK279.out 0;have hfz5_1:=blk_frozen BK279.out 1;have hfz5_2:=blk_frozen BK279.out 2;have hfz5_3:=blk_frozen BK279.out 3))
  go_ret
  exact Up.e1 (Up.Bx HB)
 ·rw [if_neg c3] at H
  have c3b0 : decide ((wrap64 (a1 - (a0_0.size : Int))) < 0) = false:=decide_eq_false c3
  clear c3
  replace H:=Option.bind_eq_some_iff.mp H
  obtain ⟨t280,A60,H⟩:=H
  replace H : (if t280 < 0 then (some (-1)) else ((laws_szIntS.f l0_3 t280).bind fun t281 => (if t281 < 0 then (some (-1)) else (some t281)))) = some r:=H
  have A6:=Aside0.mk A60
  clear A60
  by_cases c7 : t280 < 0
  ·rw [if_pos c7] at H
   have c7b0 : decide (t280 < 0) = true:=decide_eq_true c7
   clear c7
   obtain rfl:=Option.some.inj H
   go_enter Try.func19,Try.ntmps19
   go_wp2_with (first | ((with_reducible refine gate_dst (N:=2) rfl ?_);refine Up.bx 2 39 #[.string a0_0,.int .i64 a0_1,.slice A0_2 l0_2.length c0_2,.slice A0_3 l0_3.length c0_3] ?_;intro gb279 hg w8 hbox hb;have n0_:=Up.BB HB hb;have n1_:=Aside0.mk (hbox);have n2_:=Up.gw hg HB;have n3_:=Up.gw hg HB;clear HB;have HB:=n0_;have BK279:=n1_;have GW279:=n2_;have GE279:=n3_;clear n0_ n1_ n2_ n3_ hb hbox hg;have hcz9_0:=Up.c0 BK279;have hcz9_1:=Up.c1 BK279;have hcz9_2:=Up.c2 BK279;have hcz9_3:=Up.c3 BK279;have hfz9_0:=blk_frozen BK279.out 0;have hfz9_1:=blk_frozen BK279.out 1;have hfz9_2:=blk_frozen BK279.out 2;have hfz9_3:=blk_frozen BK279.out 3) | ((with_reducible refine gate_callee (f:=54) rfl ?_);refine Up.gl (some 15) Try.func54 #[.slice A0_2 l0_2.length c0_2,.int .i64 (wrap64 (a1 - (a0_0.size : Int)))] ?_;(with_reducible refine (hS_ _ _ l0_2 (wrap64 (a1 - (a0_0.size : Int))) t280 _ ?side1 ?side2 A6.out).mono ?_);(case side1 => exact Up.Cx HR0_2 HB);(case side2 => exact HC0_2.out);rintro e w10 ⟨rfl,hb⟩;refine ⟨_,rfl,?_⟩;have n0_:=Up.KB BK279 hb;have n1_:=Aside0.mk (below_step (Up.Bx HB) hb);clear BK279 HB;have BK279:=n0_;have HB:=n1_;clear n0_ n1_;(try clear hb);(try clear hb2);(try clear hk);(try clear hi)))
   go_ret
   exact Up.e1 (Up.Bx HB)
  ·rw [if_neg c7] at H
   have c7b0 : decide (t280 < 0) = false:=decide_eq_false c7
   clear c7
   replace H:=Option.bind_eq_some_iff.mp H
   obtain ⟨t281,A110,H⟩:=H
   replace H : (if t281 < 0 then (some (-1)) else (some t281)) = some r:=H
   have A11:=Aside0.mk A110
   clear A110
   by_cases c12 : t281 < 0
   ·rw [if_pos c12] at H
    have c12b0 : decide (t281 < 0) = true:=decide_eq_true c12
    clear c12
    obtain rfl:=Option.some.inj H
    go_enter Try.func19,Try.ntmps19
    go_wp2_with (first | ((with_reducible refine gate_dst (N:=2) rfl ?_);refine Up.bx 2 39 #[.string a0_0,.int .i64 a0_1,.slice A0_2 l0_2.length c0_2,.slice A0_3 l0_3.length c0_3] ?_;intro gb279 hg w13 hbox hb;have n0_:=Up.BB HB hb;have n1_:=Aside0.mk (hbox);have n2_:=Up.gw hg HB;have n3_:=Up.gw hg HB;clear HB;have HB:=n0_;have BK279:=n1_;have GW279:=n2_;have GE279:=n3_;clear n0_ n1_ n2_ n3_ hb hbox hg;have hcz14_0:=Up.c0 BK279;have hcz14_1:=Up.c1 BK279;have hcz14_2:=Up.c2 BK279;have hcz14_3:=Up.c3 BK279;have hfz14_0:=blk_frozen BK279.out 0;have hfz14_1:=blk_frozen BK279.out 1;have hfz14_2:=blk_frozen BK279.out 2;have hfz14_3:=blk_frozen BK279.out 3) | ((with_reducible refine gate_callee (f:=54) rfl ?_);refine Up.gl (some 15) Try.func54 #[.slice A0_2 l0_2.length c0_2,.int .i64 (wrap64 (a1 - (a0_0.size : Int)))] ?_;(with_reducible refine (hS_ _ _ l0_2 (wrap64 (a1 - (a0_0.size : Int))) t280 _ ?side1 ?side2 A6.out).mono ?_);(case side1 => exact Up.Cx HR0_2 HB);(case side2 => exact HC0_2.out);rintro e w15 ⟨rfl,hb⟩;refine ⟨_,rfl,?_⟩;have n0_:=Up.KB BK279 hb;have n1_:=Aside0.mk (below_step (Up.Bx HB) hb);clear BK279 HB;have BK279:=n0_;have HB:=n1_;clear n0_ n1_;(try clear hb);(try clear hb2);(try clear hk);(try clear hi);have hcz16_0:=Up.c0 BK279;have hcz16_1:=Up.c1 BK279;have hcz16_2:=Up.c2 BK279;have hcz16_3:=Up.c3 BK279;have hfz16_0:=blk_frozen BK279.out 0;have hfz16_1:=blk_frozen BK279.out 1;have hfz16_2:=blk_frozen BK279.out 2;have hfz16_3:=blk_frozen BK279.out 3) | ((with_reducible refine gate_callee (f:=55) rfl ?_);refine Up.gl (some 21) Try.func55 #[.slice A0_3 l0_3.length c0_3,.int .i64 t280] ?_;(with_reducible refine (laws_szIntS.calls _ _ l0_3 t280 t281 _ ?side1 ?side2 A11.out).mono ?_);(case side1 => exact Up.Cx HR0_3 HB);(case side2 => exact HC0_3.out);rintro e w' ⟨rfl,⟨nd,rfl⟩⟩;refine ⟨_,rfl,?_⟩))
    go_ret
    exact Up.e1 (Up.Bx HB)
   ·rw [if_neg c12] at H
    have c12b0 : decide (t281 < 0) = false:=decide_eq_false c12
    clear c12
    obtain rfl:=Option.some.inj H
    go_enter Try.func19,Try.ntmps19
    go_wp2_with (first | ((with_reducible refine gate_dst (N:=2) rfl ?_);refine Up.bx 2 39 #[.string a0_0,.int .i64 a0_1,.slice A0_2 l0_2.length c0_2,.slice A0_3 l0_3.length c0_3] ?_;intro gb279 hg w17 hbox hb;have n0_:=Up.BB HB hb;have n1_:=Aside0.mk (hbox);have n2_:=Up.gw hg HB;have n3_:=Up.gw hg HB;clear HB;have HB:=n0_;have BK279:=n1_;have GW279:=n2_;have GE279:=n3_;clear n0_ n1_ n2_ n3_ hb hbox hg;have hcz18_0:=Up.c0 BK279;have hcz18_1:=Up.c1 BK279;have hcz18_2:=Up.c2 BK279;have hcz18_3:=Up.c3 BK279;have hfz18_0:=blk_frozen BK279.out 0;have hfz18_1:=blk_frozen BK279.out 1;have hfz18_2:=blk_frozen BK279.out 2;have hfz18_3:=blk_frozen BK279.out 3) | ((with_reducible refine gate_callee (f:=54) rfl ?_);refine Up.gl (some 15) Try.func54 #[.slice A0_2 l0_2.length c0_2,.int .i64 (wrap64 (a1 - (a0_0.size : Int)))] ?_;(with_reducible refine (hS_ _ _ l0_2 (wrap64 (a1 - (a0_0.size : Int))) t280 _ ?side1 ?side2 A6.out).mono ?_);(case side1 => exact Up.Cx HR0_2 HB);(case side2 => exact HC0_2.out);rintro e w19 ⟨rfl,hb⟩;refine ⟨_,rfl,?_⟩;have n0_:=Up.KB BK279 hb;have n1_:=Aside0.mk (below_step (Up.Bx HB) hb);clear BK279 HB;have BK279:=n0_;have HB:=n1_;clear n0_ n1_;(try clear hb);(try clear hb2);(try clear hk);(try clear hi);have hcz20_0:=Up.c0 BK279;have hcz20_1:=Up.c1 BK279;have hcz20_2:=Up.c2 BK279;have hcz20_3:=Up.c3 BK279;have hfz20_0:=blk_frozen BK279.out 0;have hfz20_1:=blk_frozen BK279.out 1;have hfz20_2:=blk_frozen BK279.out 2;have hfz20_3:=blk_frozen BK279.out 3) | ((with_reducible refine gate_callee (f:=55) rfl ?_);refine Up.gl (some 21) Try.func55 #[.slice A0_3 l0_3.length c0_3,.int .i64 t280] ?_;(with_reducible refine (laws_szIntS.calls _ _ l0_3 t280 t281 _ ?side1 ?side2 A11.out).mono ?_);(case side1 => exact Up.Cx HR0_3 HB);(case side2 => exact HC0_3.out);rintro e w' ⟨rfl,⟨nd,rfl⟩⟩;refine ⟨_,rfl,?_⟩))
    go_ret
    exact Up.e1 (Up.Bx HB)
set_option maxHeartbeats 8000000 in
set_option maxRecDepth 100000 in
theorem laws_szValueS.calls (k : Nat) : ∀ (A0 : Option Addr) (c0 : Nat) (l0 : List (S39)) (a1 : Int) (r : Int) (w : World) (hr0 : Kd.C k39 w A0 l0.length l0) (hc0 : l0.length ≤ c0) (h : laws_szValueS.f k l0 a1 = some r),Calls Try.prog 54 #[.slice A0 l0.length c0,.int .i64 a1] w fun e w' => e = .returned (.int .i64 r) ∧ Below w.heap.size w w':=by
 refine Nat.strongRecOn (motive:=fun k => ∀ (A0 : Option Addr) (c0 : Nat) (l0 : List (S39)) (a1 : Int) (r : Int) (w : World) (hr0 : Kd.C k39 w A0 l0.length l0) (hc0 : l0.length ≤ c0) (h : laws_szValueS.f k l0 a1 = some r),Calls Try.prog 54 #[.slice A0 l0.length c0,.int .i64 a1] w fun e w' => e = .returned (.int .i64 r) ∧ Below w.heap.size w w') k (fun k ihS_ => ?_)
 intro A0 c0 l0 a1 r w hr0 hc0 h
 have hu39:=Try.underlying39
 have HR0:=Aside0.mk hr0
 have HC0:=Aside0.mk hc0
 clear hr0 hc0
 have HB:=Aside0.mk (Below.refl w.heap.size w)
 have H : (if (wrap64 (a1 - (l0.length : Int))) < 0 then (some (-1)) else (laws_szValueS.l0 k l0 (wrap64 (a1 - (l0.length : Int))) 0)) = some r:=h
 clear h
 by_cases c3 : (wrap64 (a1 - (l0.length : Int))) < 0
 ·rw [if_pos c3] at H
  have c3b0 : decide ((wrap64 (a1 - (l0.length : Int))) < 0) = true:=decide_eq_true c3
  clear c3
  obtain rfl:=Option.some.inj H
  go_enter Try.func54,Try.ntmps54
  go_wp2
  go_ret
  exact Up.e1 (Up.Bup HB)
 ·rw [if_neg c3] at H
  have c3b0 : decide ((wrap64 (a1 - (l0.length : Int))) < 0) = false:=decide_eq_false c3
  clear c3
  have H':=Aside0.mk H
  clear H
  go_enter Try.func54,Try.ntmps54
  go_wp2
  go_loopg [1,5] k (fun kq v1 v5 w' => ∃ (x1_1 : Int) (x5_1 : Int),v1 = .int .i64 x1_1 ∧ v5 = .int .i64 x5_1 ∧ Aside0 (laws_szValueS.l0 kq l0 x1_1 x5_1 = some r) ∧ Aside0 (kq ≤ k) ∧ Aside0 (Below w.heap.size w w'))
  case atStart => exact ⟨(wrap64 (a1 - (l0.length : Int))),(0),(by first | rfl | (simp;done) | (simp [*];done)),(by first | rfl | (simp;done) | (simp [*];done)),H',⟨Nat.le_refl _⟩,⟨Up.Bup HB⟩⟩
  case round =>
   clear H'
   try clear p2
   try clear c3
   try clear c3b0
   obtain ⟨x1_1,x5_1,rfl,rfl,HA,HK1,HB⟩:=hrel
   cases gk with
   | zero => exact absurd HA.out (by simp [laws_szValueS.l0])
   | succ k1 =>
    have H:=HA.out
    clear HA
    simp only [laws_szValueS.l0_eq] at H
    by_cases c4 : x5_1 < (l0.length : Int)
    ·rw [if_pos c4] at H
     have c4b0 : decide (x5_1 < (l0.length : Int)) = true:=decide_eq_true c4
     clear c4
     by_cases c5 : 0 ≤ x5_1
     ·rw [if_pos c5] at H
      have c5b0 : decide (0 ≤ x5_1) = true:=decide_eq_true c5
      clear c5
      replace H:=Option.bind_eq_some_iff.mp H
      obtain ⟨t278,A60,H⟩:=H
      replace H : (if t278 < 0 then (some (-1)) else (laws_szValueS.l0 k1 l0 t278 (wrap64 (x5_1 + 1)))) = some r:=H
      have A6:=Aside0.mk A60
      clear A60
      by_cases c7 : t278 < 0
      ·rw [if_pos c7] at H
       have c7b0 : decide (t278 < 0) = true:=decide_eq_true c7
       clear c7
       obtain rfl:=Option.some.inj H
       have p277 : 0 ≤ (x5_1 : Int):=Up.od
       have q277 : x5_1 < (l0.length : Int):=Up.od
       obtain ⟨ad277,A277_2,c277_2,A277_3,c277_3,e277,hx277_0,hx277_1,hx277_2,hx277_3,hl277_2,hi277_2,hl277_3,hi277_3⟩:=at_T39 HR0.out x5_1 p277 q277
       cases e277
       replace hx277_0:=Up.hc HB hx277_0
       replace hx277_1:=Up.hc HB hx277_1
       replace hx277_2:=Up.hc HB hx277_2
       replace hx277_3:=Up.hc HB hx277_3
       have HR277_2:=Aside0.mk hi277_2
       have HC277_2:=Aside0.mk hl277_2
       clear hi277_2 hl277_2
       have HR277_3:=Aside0.mk hi277_3
       have HC277_3:=Aside0.mk hl277_3
       clear hi277_3 hl277_3
       replace p277:=eq_true p277
       replace q277:=eq_true q277
       go_wp2_with (first | ((with_reducible refine gate_callee (f:=19) rfl ?_);refine Up.gl (some 23) Try.func19 #[.agg #[.string ((rd_T39 l0 x5_1).f0),.int .i64 ((rd_T39 l0 x5_1).f1),.slice A277_2 ((rd_T39 l0 x5_1).f2).length c277_2,.slice A277_3 ((rd_T39 l0 x5_1).f3).length c277_3],.int .i64 x1_1] ?_;(with_reducible refine (laws_szValue.calls_of k1 (ihS_ k1 (by have h_:=HK1.out;omega)) ((rd_T39 l0 x5_1).f0) ((rd_T39 l0 x5_1).f1) _ _ ((rd_T39 l0 x5_1).f2) _ _ ((rd_T39 l0 x5_1).f3) x1_1 t278 _ ?side1 ?side2 ?side3 ?side4 A6.out).mono ?_);(case side1 => exact Up.Cx HR277_2 HB);(case side2 => exact HC277_2.out);(case side3 => exact Up.Cx HR277_3 HB);(case side4 => exact HC277_3.out);rintro e w8 ⟨rfl,hb⟩;refine ⟨_,rfl,?_⟩;have n0_:=Up.BB HB hb;clear HB;have HB:=n0_;clear n0_;(try clear hb);(try clear hb2);(try clear hk);(try clear hi)))
       go_ret
       exact Up.e1 (Up.Bup HB)
      ·rw [if_neg c7] at H
       have c7b0 : decide (t278 < 0) = false:=decide_eq_false c7
       clear c7
       have H':=Aside0.mk H
       clear H
       have p277 : 0 ≤ (x5_1 : Int):=Up.od
       have q277 : x5_1 < (l0.length : Int):=Up.od
       obtain ⟨ad277,A277_2,c277_2,A277_3,c277_3,e277,hx277_0,hx277_1,hx277_2,hx277_3,hl277_2,hi277_2,hl277_3,hi277_3⟩:=at_T39 HR0.out x5_1 p277 q277
       cases e277
       replace hx277_0:=Up.hc HB hx277_0
       replace hx277_1:=Up.hc HB hx277_1
       replace hx277_2:=Up.hc HB hx277_2
       replace hx277_3:=Up.hc HB hx277_3
       have HR277_2:=Aside0.mk hi277_2
       have HC277_2:=Aside0.mk hl277_2
       clear hi277_2 hl277_2
       have HR277_3:=Aside0.mk hi277_3
       have HC277_3:=Aside0.mk hl277_3
       clear hi277_3 hl277_3
       replace p277:=eq_true p277
       replace q277:=eq_true q277
       go_wp2_with (first | ((with_reducible refine gate_callee (f:=19) rfl ?_);refine Up.gl (some 23) Try.func19 #[.agg #[.string ((rd_T39 l0 x5_1).f0),.int .i64 ((rd_T39 l0 x5_1).f1),.slice A277_2 ((rd_T39 l0 x5_1).f2).length c277_2,.slice A277_3 ((rd_T39 l0 x5_1).f3).length c277_3],.int .i64 x1_1] ?_;(with_reducible refine (laws_szValue.calls_of k1 (ihS_ k1 (by have h_:=HK1.out;omega)) ((rd_T39 l0 x5_1).f0) ((rd_T39 l0 x5_1).f1) _ _ ((rd_T39 l0 x5_1).f2) _ _ ((rd_T39 l0 x5_1).f3) x1_1 t278 _ ?side1 ?side2 ?side3 ?side4 A6.out).mono ?_);(case side1 => exact Up.Cx HR277_2 HB);(case side2 => exact HC277_2.out);(case side3 => exact Up.Cx HR277_3 HB);(case side4 => exact HC277_3.out);rintro e w9 ⟨rfl,hb⟩;refine ⟨_,rfl,?_⟩;have n0_:=Up.BB HB hb;clear HB;have HB:=n0_;clear n0_;(try clear hb);(try clear hb2);(try clear hk);(try clear hi)))
       go_roundg k1
       case measure => have:=HK1.out;omega
       case rel => exact ⟨(t278),(wrap64 (x5_1 + 1)),(by first | rfl | (simp;done) | (simp [*];done)),(by first | rfl | (simp;done) | (simp [*];done)),H',⟨by have:=HK1.out;omega⟩,⟨Up.Bup HB⟩⟩
     ·rw [if_neg c5] at H
      exact absurd H (by simp)
    ·rw [if_neg c4] at H
     have c4b0 : decide (x5_1 < (l0.length : Int)) = false:=decide_eq_false c4
     clear c4
     obtain rfl:=Option.some.inj H
     go_wp2
     go_ret
     exact Up.e1 (Up.Bup HB)
theorem laws_szValue.calls (k : Nat) (a0_0 : ByteArray) (a0_1 : Int) (A0_2 : Option Addr) (c0_2 : Nat) (l0_2 : List (S39)) (A0_3 : Option Addr) (c0_3 : Nat) (l0_3 : List Int) (a1 : Int) (r : Int) (w : World) (hr0_2 : Kd.C k39 w A0_2 l0_2.length l0_2) (hc0_2 : l0_2.length ≤ c0_2) (hr0_3 : Kd.C (Kd.int .i64) w A0_3 l0_3.length l0_3) (hc0_3 : l0_3.length ≤ c0_3) (h : laws_szValue.f k a0_0 a0_1 l0_2 l0_3 a1 = some r) :
  Calls Try.prog 19 #[.agg #[.string a0_0,.int .i64 a0_1,.slice A0_2 l0_2.length c0_2,.slice A0_3 l0_3.length c0_3],.int .i64 a1] w fun e w' => e = .returned (.int .i64 r) ∧ Below w.heap.size w w':=laws_szValue.calls_of k (laws_szValueS.calls k) a0_0 a0_1 A0_2 c0_2 l0_2 A0_3 c0_3 l0_3 a1 r w hr0_2 hc0_2 hr0_3 hc0_3 h

/-! ### laws_szKept: function 73 -/
def laws_szKept.f (k : Nat) (a0_0 : Int) (a0_1 : ByteArray) (a0_2 : Int) (l0_3 : List (S39)) (l0_4 : List Int) (a1 : Int) : Option (Int):=(laws_szValue.f k a0_1 a0_2 l0_3 l0_4 a1).bind fun t283 => (if t283 < 0 then (some (-1)) else (some t283))
theorem laws_szKept.mono : ∀ a0 a1 a2 a3 a4 a5 k,LeO (laws_szKept.f k a0 a1 a2 a3 a4 a5) (laws_szKept.f (k + 1) a0 a1 a2 a3 a4 a5):=by
 intro a0 a1 a2 a3 a4 a5 k
 unfold laws_szKept.f
 repeat' first
   | (with_reducible exact laws_szValue.mono _ _ _ _ _ _)
   | (with_reducible exact LeO.refl _)
   | (with_reducible exact LeO.none _)
   | (with_reducible refine LeO.ite ?_ ?_)
   | (with_reducible refine LeO.bind ?_ (fun _ => ?_))
   | exact laws_szValue.mono _ _ _ _ _ _
   | exact LeO.none _
   | refine LeO.ite ?_ ?_
   | refine LeO.bind ?_ (fun _ => ?_)
set_option maxHeartbeats 8000000 in
set_option maxRecDepth 100000 in
theorem laws_szKept.calls (k : Nat) (a0_0 : Int) (a0_1 : ByteArray) (a0_2 : Int) (A0_3 : Option Addr) (c0_3 : Nat) (l0_3 : List (S39)) (A0_4 : Option Addr) (c0_4 : Nat) (l0_4 : List Int) (a1 : Int) (r : Int) (w : World) (hr0_3 : Kd.C k39 w A0_3 l0_3.length l0_3) (hc0_3 : l0_3.length ≤ c0_3) (hr0_4 : Kd.C (Kd.int .i64) w A0_4 l0_4.length l0_4) (hc0_4 : l0_4.length ≤ c0_4) (h : laws_szKept.f k a0_0 a0_1 a0_2 l0_3 l0_4 a1 = some r) :
  Calls Try.prog 73 #[.agg #[.int .i64 a0_0,.string a0_1,.int .i64 a0_2,.slice A0_3 l0_3.length c0_3,.slice A0_4 l0_4.length c0_4],.int .i64 a1] w fun e w' => e = .returned (.int .i64 r) ∧ Below w.heap.size w w':=by
 have hu96:=Try.underlying96
 have hu39:=Try.underlying39
 have HR0_3:=Aside0.mk hr0_3
 have HC0_3:=Aside0.mk hc0_3
 clear hr0_3 hc0_3
 have HR0_4:=Aside0.mk hr0_4
 have HC0_4:=Aside0.mk hc0_4
 clear hr0_4 hc0_4
 have HB:=Aside0.mk (Below.refl w.heap.size w)
 have H : ((laws_szValue.f k a0_1 a0_2 l0_3 l0_4 a1).bind fun t283 => (if t283 < 0 then (some (-1)) else (some t283))) = some r:=h
 clear h
 replace H:=Option.bind_eq_some_iff.mp H
 obtain ⟨t283,A30,H⟩:=H
 replace H : (if t283 < 0 then (some (-1)) else (some t283)) = some r:=H
 have A3:=Aside0.mk A30
 clear A30
 by_cases c4 : t283 < 0
 ·rw [if_pos c4] at H
  have c4b0 : decide (t283 < 0) = true:=decide_eq_true c4
  clear c4
  obtain rfl:=Option.some.inj H
  go_enter Try.func73,Try.ntmps73
  go_wp2_with (first | ((with_reducible refine gate_dst (N:=2) rfl ?_);refine Up.bx 2 96 #[.int .i64 a0_0,.string a0_1,.int .i64 a0_2,.slice A0_3 l0_3.length c0_3,.slice A0_4 l0_4.length c0_4] ?_;intro gb282 hg w5 hbox hb;have n0_:=Up.BB HB hb;have n1_:=Aside0.mk (hbox);have n2_:=Up.gw hg HB;have n3_:=Up.gw hg HB;clear HB;have HB:=n0_;have BK282:=n1_;have GW282:=n2_;have GE282:=n3_;clear n0_ n1_ n2_ n3_ hb hbox hg;have hcz6_0:=Up.c0 BK282;have hcz6_1:=Up.c1 BK282;have hcz6_2:=Up.c2 BK282;have hcz6_3:=Up.c3 BK282;have hcz6_4:=Up.c4 BK282;have hfz6_0:=blk_frozen BK282.out 0;have hfz6_1:=blk_frozen BK282.out 1;have hfz6_2:=blk_frozen BK282.out 2;have hfz6_3:=blk_frozen BK282.out 3;have hfz6_4:=blk_frozen BK282.out 4) | ((with_reducible refine gate_callee (f:=19) rfl ?_);refine Up.gl (some 8) Try.func19 #[.agg #[.string a0_1,.int .i64 a0_2,.slice A0_3 l0_3.length c0_3,.slice A0_4 l0_4.length c0_4],.int .i64 a1] ?_;(with_reducible refine (laws_szValue.calls k a0_1 a0_2 _ _ l0_3 _ _ l0_4 a1 t283 _ ?side1 ?side2 ?side3 ?side4 A3.out).mono ?_);(case side1 => exact Up.Cx HR0_3 HB);(case side2 => exact HC0_3.out);(case side3 => exact Up.Cx HR0_4 HB);(case side4 => exact HC0_4.out);rintro e w7 ⟨rfl,hb⟩;refine ⟨_,rfl,?_⟩;have n0_:=Up.KB BK282 hb;have n1_:=Aside0.mk (below_step (Up.Bx HB) hb);clear BK282 HB;have BK282:=n0_;have HB:=n1_;clear n0_ n1_;(try clear hb);(try clear hb2);(try clear hk);(try clear hi)))
  go_ret
  exact Up.e1 (Up.Bx HB)
 ·rw [if_neg c4] at H
  have c4b0 : decide (t283 < 0) = false:=decide_eq_false c4
  clear c4
  obtain rfl:=Option.some.inj H
  go_enter Try.func73,Try.ntmps73
  go_wp2_with (first | ((with_reducible refine gate_dst (N:=2) rfl ?_);refine Up.bx 2 96 #[.int .i64 a0_0,.string a0_1,.int .i64 a0_2,.slice A0_3 l0_3.length c0_3,.slice A0_4 l0_4.length c0_4] ?_;intro gb282 hg w8 hbox hb;have n0_:=Up.BB HB hb;have n1_:=Aside0.mk (hbox);have n2_:=Up.gw hg HB;have n3_:=Up.gw hg HB;clear HB;have HB:=n0_;have BK282:=n1_;have GW282:=n2_;have GE282:=n3_;clear n0_ n1_ n2_ n3_ hb hbox hg;have hcz9_0:=Up.c0 BK282;have hcz9_1:=Up.c1 BK282;have hcz9_2:=Up.c2 BK282;have hcz9_3:=Up.c3 BK282;have hcz9_4:=Up.c4 BK282;have hfz9_0:=blk_frozen BK282.out 0;have hfz9_1:=blk_frozen BK282.out 1;have hfz9_2:=blk_frozen BK282.out 2;have hfz9_3:=blk_frozen BK282.out 3;have hfz9_4:=blk_frozen BK282.out 4) | ((with_reducible refine gate_callee (f:=19) rfl ?_);refine Up.gl (some 8) Try.func19 #[.agg #[.string a0_1,.int .i64 a0_2,.slice A0_3 l0_3.length c0_3,.slice A0_4 l0_4.length c0_4],.int .i64 a1] ?_;(with_reducible refine (laws_szValue.calls k a0_1 a0_2 _ _ l0_3 _ _ l0_4 a1 t283 _ ?side1 ?side2 ?side3 ?side4 A3.out).mono ?_);(case side1 => exact Up.Cx HR0_3 HB);(case side2 => exact HC0_3.out);(case side3 => exact Up.Cx HR0_4 HB);(case side4 => exact HC0_4.out);rintro e w10 ⟨rfl,hb⟩;refine ⟨_,rfl,?_⟩;have n0_:=Up.KB BK282 hb;have n1_:=Aside0.mk (below_step (Up.Bx HB) hb);clear BK282 HB;have BK282:=n0_;have HB:=n1_;clear n0_ n1_;(try clear hb);(try clear hb2);(try clear hk);(try clear hi)))
  go_ret
  exact Up.e1 (Up.Bx HB)

/-! ### laws_szKeptS: function 30 -/
def laws_szKeptS.l0 : Nat → List (S96) → Int → Int → Option (Int)
 | 0,_,_,_ => none
 | k + 1,x0,x1,x5 => if x5 < (x0.length : Int) then (if 0 ≤ x5 then ((laws_szKept.f k ((rd_T96 x0 x5).f0) ((rd_T96 x0 x5).f1.f0) ((rd_T96 x0 x5).f1.f1) ((rd_T96 x0 x5).f1.f2) ((rd_T96 x0 x5).f1.f3) x1).bind fun t285 => (if t285 < 0 then (some (-1)) else (laws_szKeptS.l0 k x0 t285 (wrap64 (x5 + 1))))) else (none)) else (some x1)
def laws_szKeptS.f (k : Nat) (l0 : List (S96)) (a1 : Int) : Option (Int):=if (wrap64 (a1 - (l0.length : Int))) < 0 then (some (-1)) else (laws_szKeptS.l0 k l0 (wrap64 (a1 - (l0.length : Int))) 0)
theorem laws_szKeptS.mono_l : ∀ k,(∀ y0 y1 y2,LeO (laws_szKeptS.l0 k y0 y1 y2) (laws_szKeptS.l0 (k + 1) y0 y1 y2))
 | 0 => fun _ _ _ r h => by simp [laws_szKeptS.l0] at h
 | k + 1 => by
  have ih0:=laws_szKeptS.mono_l k
  ·intro y0 y1 y2
   unfold laws_szKeptS.l0
   repeat' first
   | (with_reducible exact ih0 _ _ _)
   | (with_reducible exact laws_szKept.mono _ _ _ _ _ _ _)
   | (with_reducible exact LeO.refl _)
   | (with_reducible exact LeO.none _)
   | (with_reducible refine LeO.ite ?_ ?_)
   | (with_reducible refine LeO.bind ?_ (fun _ => ?_))
   | exact ih0 _ _ _
   | exact laws_szKept.mono _ _ _ _ _ _ _
   | exact LeO.none _
   | refine LeO.ite ?_ ?_
   | refine LeO.bind ?_ (fun _ => ?_)
theorem laws_szKeptS.mono : ∀ a0 a1 k,LeO (laws_szKeptS.f k a0 a1) (laws_szKeptS.f (k + 1) a0 a1):=by
 intro a0 a1 k
 have ih0:=laws_szKeptS.mono_l k
 unfold laws_szKeptS.f
 repeat' first
   | (with_reducible exact ih0 _ _ _)
   | (with_reducible exact laws_szKept.mono _ _ _ _ _ _ _)
   | (with_reducible exact LeO.refl _)
   | (with_reducible exact LeO.none _)
   | (with_reducible refine LeO.ite ?_ ?_)
   | (with_reducible refine LeO.bind ?_ (fun _ => ?_))
   | exact ih0 _ _ _
   | exact laws_szKept.mono _ _ _ _ _ _ _
   | exact LeO.none _
   | refine LeO.ite ?_ ?_
   | refine LeO.bind ?_ (fun _ => ?_)
set_option maxHeartbeats 8000000 in
set_option maxRecDepth 100000 in
theorem laws_szKeptS.calls (k : Nat) (A0 : Option Addr) (c0 : Nat) (l0 : List (S96)) (a1 : Int) (r : Int) (w : World) (hr0 : Kd.C k96 w A0 l0.length l0) (hc0 : l0.length ≤ c0) (h : laws_szKeptS.f k l0 a1 = some r) :
  Calls Try.prog 30 #[.slice A0 l0.length c0,.int .i64 a1] w fun e w' => e = .returned (.int .i64 r) ∧ Below w.heap.size w w':=by
 have hu96:=Try.underlying96
 have HR0:=Aside0.mk hr0
 have HC0:=Aside0.mk hc0
 clear hr0 hc0
 have HB:=Aside0.mk (Below.refl w.heap.size w)
 have H : (if (wrap64 (a1 - (l0.length : Int))) < 0 then (some (-1)) else (laws_szKeptS.l0 k l0 (wrap64 (a1 - (l0.length : Int))) 0)) = some r:=h
 clear h
 by_cases c3 : (wrap64 (a1 - (l0.length : Int))) < 0
 ·rw [if_pos c3] at H
  have c3b0 : decide ((wrap64 (a1 - (l0.length : Int))) < 0) = true:=decide_eq_true c3
  clear c3
  obtain rfl:=Option.some.inj H
  go_enter Try.func30,Try.ntmps30
  go_wp2
  go_ret
  exact Up.e1 (Up.Bup HB)
 ·rw [if_neg c3] at H
  have c3b0 : decide ((wrap64 (a1 - (l0.length : Int))) < 0) = false:=decide_eq_false c3
  clear c3
  have H':=Aside0.mk H
  clear H
  go_enter Try.func30,Try.ntmps30
  go_wp2
  go_loopg [1,5] k (fun kq v1 v5 w' => ∃ (x1_1 : Int) (x5_1 : Int),v1 = .int .i64 x1_1 ∧ v5 = .int .i64 x5_1 ∧ Aside0 (laws_szKeptS.l0 kq l0 x1_1 x5_1 = some r) ∧ Aside0 (kq ≤ k) ∧ Aside0 (Below w.heap.size w w'))
  case atStart => exact ⟨(wrap64 (a1 - (l0.length : Int))),(0),(by first | rfl | (simp;done) | (simp [*];done)),(by first | rfl | (simp;done) | (simp [*];done)),H',⟨Nat.le_refl _⟩,⟨Up.Bup HB⟩⟩
  case round =>
   clear H'
   try clear p2
   try clear c3
   try clear c3b0
   obtain ⟨x1_1,x5_1,rfl,rfl,HA,HK1,HB⟩:=hrel
   cases gk with
   | zero => exact absurd HA.out (by simp [laws_szKeptS.l0])
   | succ k1 =>
    have H:=HA.out
    clear HA
    simp only [laws_szKeptS.l0] at H
    by_cases c4 : x5_1 < (l0.length : Int)
    ·rw [if_pos c4] at H
     have c4b0 : decide (x5_1 < (l0.length : Int)) = true:=decide_eq_true c4
     clear c4
     by_cases c5 : 0 ≤ x5_1
     ·rw [if_pos c5] at H
      have c5b0 : decide (0 ≤ x5_1) = true:=decide_eq_true c5
      clear c5
      replace H:=Option.bind_eq_some_iff.mp H
      obtain ⟨t285,A60,H⟩:=H
      replace H : (if t285 < 0 then (some (-1)) else (laws_szKeptS.l0 k1 l0 t285 (wrap64 (x5_1 + 1)))) = some r:=H
      have A6:=Aside0.mk A60
      clear A60
      by_cases c7 : t285 < 0
      ·rw [if_pos c7] at H
       have c7b0 : decide (t285 < 0) = true:=decide_eq_true c7
       clear c7
       obtain rfl:=Option.some.inj H
       have p284 : 0 ≤ (x5_1 : Int):=Up.od
       have q284 : x5_1 < (l0.length : Int):=Up.od
       obtain ⟨ad284,A284_3,c284_3,A284_4,c284_4,e284,hx284_0,hx284_1,hx284_2,hx284_3,hx284_4,hl284_3,hi284_3,hl284_4,hi284_4⟩:=at_T96 HR0.out x5_1 p284 q284
       cases e284
       replace hx284_0:=Up.hc HB hx284_0
       replace hx284_1:=Up.hc HB hx284_1
       replace hx284_2:=Up.hc HB hx284_2
       replace hx284_3:=Up.hc HB hx284_3
       replace hx284_4:=Up.hc HB hx284_4
       have HR284_3:=Aside0.mk hi284_3
       have HC284_3:=Aside0.mk hl284_3
       clear hi284_3 hl284_3
       have HR284_4:=Aside0.mk hi284_4
       have HC284_4:=Aside0.mk hl284_4
       clear hi284_4 hl284_4
       replace p284:=eq_true p284
       replace q284:=eq_true q284
       go_wp2_with (first | ((with_reducible refine gate_callee (f:=73) rfl ?_);refine Up.gl (some 23) Try.func73 #[.agg #[.int .i64 ((rd_T96 l0 x5_1).f0),.string ((rd_T96 l0 x5_1).f1.f0),.int .i64 ((rd_T96 l0 x5_1).f1.f1),.slice A284_3 ((rd_T96 l0 x5_1).f1.f2).length c284_3,.slice A284_4 ((rd_T96 l0 x5_1).f1.f3).length c284_4],.int .i64 x1_1] ?_;(with_reducible refine (laws_szKept.calls k1 ((rd_T96 l0 x5_1).f0) ((rd_T96 l0 x5_1).f1.f0) ((rd_T96 l0 x5_1).f1.f1) _ _ ((rd_T96 l0 x5_1).f1.f2) _ _ ((rd_T96 l0 x5_1).f1.f3) x1_1 t285 _ ?side1 ?side2 ?side3 ?side4 A6.out).mono ?_);(case side1 => exact Up.Cx HR284_3 HB);(case side2 => exact HC284_3.out);(case side3 => exact Up.Cx HR284_4 HB);(case side4 => exact HC284_4.out);rintro e w8 ⟨rfl,hb⟩;refine ⟨_,rfl,?_⟩;have n0_:=Up.BB HB hb;clear HB;have HB:=n0_;clear n0_;(try clear hb);(try clear hb2);(try clear hk);(try clear hi)))
       go_ret
       exact Up.e1 (Up.Bup HB)
      ·rw [if_neg c7] at H
       have c7b0 : decide (t285 < 0) = false:=decide_eq_false c7
       clear c7
       have H':=Aside0.mk H
       clear H
       have p284 : 0 ≤ (x5_1 : Int):=Up.od
       have q284 : x5_1 < (l0.length : Int):=Up.od
       obtain ⟨ad284,A284_3,c284_3,A284_4,c284_4,e284,hx284_0,hx284_1,hx284_2,hx284_3,hx284_4,hl284_3,hi284_3,hl284_4,hi284_4⟩:=at_T96 HR0.out x5_1 p284 q284
       cases e284
       replace hx284_0:=Up.hc HB hx284_0
       replace hx284_1:=Up.hc HB hx284_1
       replace hx284_2:=Up.hc HB hx284_2
       replace hx284_3:=Up.hc HB hx284_3
       replace hx284_4:=Up.hc HB hx284_4
       have HR284_3:=Aside0.mk hi284_3
       have HC284_3:=Aside0.mk hl284_3
       clear hi284_3 hl284_3
       have HR284_4:=Aside0.mk hi284_4
       have HC284_4:=Aside0.mk hl284_4
       clear hi284_4 hl284_4
       replace p284:=eq_true p284
       replace q284:=eq_true q284
       go_wp2_with (first | ((with_reducible refine gate_callee (f:=73) rfl ?_);refine Up.gl (some 23) Try.func73 #[.agg #[.int .i64 ((rd_T96 l0 x5_1).f0),.string ((rd_T96 l0 x5_1).f1.f0),.int .i64 ((rd_T96 l0 x5_1).f1.f1),.slice A284_3 ((rd_T96 l0 x5_1).f1.f2).length c284_3,.slice A284_4 ((rd_T96 l0 x5_1).f1.f3).length c284_4],.int .i64 x1_1] ?_;(with_reducible refine (laws_szKept.calls k1 ((rd_T96 l0 x5_1).f0) ((rd_T96 l0 x5_1).f1.f0) ((rd_T96 l0 x5_1).f1.f1) _ _ ((rd_T96 l0 x5_1).f1.f2) _ _ ((rd_T96 l0 x5_1).f1.f3) x1_1 t285 _ ?side1 ?side2 ?side3 ?side4 A6.out).mono ?_);(case side1 => exact Up.Cx HR284_3 HB);(case side2 => exact HC284_3.out);(case side3 => exact Up.Cx HR284_4 HB);(case side4 => exact HC284_4.out);rintro e w9 ⟨rfl,hb⟩;refine ⟨_,rfl,?_⟩;have n0_:=Up.BB HB hb;clear HB;have HB:=n0_;clear n0_;(try clear hb);(try clear hb2);(try clear hk);(try clear hi)))
       go_roundg k1
       case measure => have:=HK1.out;omega
       case rel => exact ⟨(t285),(wrap64 (x5_1 + 1)),(by first | rfl | (simp;done) | (simp [*];done)),(by first | rfl | (simp;done) | (simp [*];done)),H',⟨by have:=HK1.out;omega⟩,⟨Up.Bup HB⟩⟩
     ·rw [if_neg c5] at H
      exact absurd H (by simp)
    ·rw [if_neg c4] at H
     have c4b0 : decide (x5_1 < (l0.length : Int)) = false:=decide_eq_false c4
     clear c4
     obtain rfl:=Option.some.inj H
     go_wp2
     go_ret
     exact Up.e1 (Up.Bup HB)

-- told with loop.example/heirlooms/laws.toValue

/-! ### laws_toIntS: function 60 -/
def laws_toIntS.l0 : Nat → List Int → List Int → Int → Option (List Int)
 | 0,_,_,_ => none
 | k + 1,x0,x3,x4 => if x4 < (x0.length : Int) then (if 0 ≤ x4 then (if x4 < (x3.length : Int) then (laws_toIntS.l0 k x0 (x3.set (x4 : Int).toNat (rd x0 x4)) (wrap64 (x4 + 1))) else (none)) else (none)) else (some x3)
def laws_toIntS.f (k : Nat) (l0 : List Int) : Option (List Int):=if 0 ≤ (l0.length : Int) then (if ((l0.length : Int) : Int).toNat ≤ 35184372088832 then (laws_toIntS.l0 k l0 (List.replicate ((l0.length : Int) : Int).toNat 0) 0) else (none)) else (none)
theorem laws_toIntS.mono_l : ∀ k,(∀ y0 y1 y2,LeO (laws_toIntS.l0 k y0 y1 y2) (laws_toIntS.l0 (k + 1) y0 y1 y2))
 | 0 => fun _ _ _ r h => by simp [laws_toIntS.l0] at h
 | k + 1 => by
  have ih0:=laws_toIntS.mono_l k
  ·intro y0 y1 y2
   unfold laws_toIntS.l0
   repeat' first
   | (with_reducible exact ih0 _ _ _)
   | (with_reducible exact LeO.refl _)
   | (with_reducible exact LeO.none _)
   | (with_reducible refine LeO.ite ?_ ?_)
   | (with_reducible refine LeO.bind ?_ (fun _ => ?_))
   | exact ih0 _ _ _
   | exact LeO.none _
   | refine LeO.ite ?_ ?_
   | refine LeO.bind ?_ (fun _ => ?_)
theorem laws_toIntS.mono : ∀ a0 k,LeO (laws_toIntS.f k a0) (laws_toIntS.f (k + 1) a0):=by
 intro a0 k
 have ih0:=laws_toIntS.mono_l k
 unfold laws_toIntS.f
 repeat' first
   | (with_reducible exact ih0 _ _ _)
   | (with_reducible exact LeO.refl _)
   | (with_reducible exact LeO.none _)
   | (with_reducible refine LeO.ite ?_ ?_)
   | (with_reducible refine LeO.bind ?_ (fun _ => ?_))
   | exact ih0 _ _ _
   | exact LeO.none _
   | refine LeO.ite ?_ ?_
   | refine LeO.bind ?_ (fun _ => ?_)
set_option maxHeartbeats 8000000 in
set_option maxRecDepth 100000 in
theorem laws_toIntS.calls (k : Nat) (A0 : Option Addr) (c0 : Nat) (l0 : List Int) (r : List Int) (w : World) (hr0 : Kd.C (Kd.int .i64) w A0 l0.length l0) (hc0 : l0.length ≤ c0) (h : laws_toIntS.f k l0 = some r) :
  Calls Try.prog 60 #[.slice A0 l0.length c0] w fun e w' => ∃ v0_ : Value,e = .returned (v0_) ∧ Kd.R (Kd.int .i64) 3 w' w.heap.size (fun _ => True) v0_ r ∧ Below w.heap.size w w':=by
 have HR0:=Aside0.mk hr0
 have HC0:=Aside0.mk hc0
 clear hr0 hc0
 have HB:=Aside0.mk (Below.refl w.heap.size w)
 have H : (if 0 ≤ (l0.length : Int) then (if ((l0.length : Int) : Int).toNat ≤ 35184372088832 then (laws_toIntS.l0 k l0 (List.replicate ((l0.length : Int) : Int).toNat 0) 0) else (none)) else (none)) = some r:=h
 clear h
 by_cases c2 : 0 ≤ (l0.length : Int)
 ·rw [if_pos c2] at H
  have c2b0:=eq_true c2
  have c2b1 : decide (0 ≤ (l0.length : Int)) = true:=decide_eq_true c2
  clear c2
  by_cases c3 : ((l0.length : Int) : Int).toNat ≤ 35184372088832
  ·rw [if_pos c3] at H
   have c3b0:=eq_true c3
   have c3b1 : decide (((l0.length : Int) : Int).toNat ≤ 35184372088832) = true:=decide_eq_true c3
   clear c3
   obtain ⟨y299,hy299⟩ : ∃ y_ : List Int,y_ = (List.replicate ((l0.length : Int) : Int).toNat 0):=⟨_,rfl⟩
   replace H : (laws_toIntS.l0 k l0 y299 0) = some r:=by first | (rw [hy299];with_reducible exact H) | (have H2_:=(Option.bind_some _ _).symm.trans H;rw [hy299];with_reducible exact H2_) | (have H2_:=(Option.bind_some _ _).symm.trans H;with_reducible exact H2_) | with_reducible exact H | (rw [hy299];exact H) | exact H
   have Ny299:=Aside0.mk hy299
   clear hy299
   have H':=Aside0.mk H
   clear H
   go_enter Try.func60,Try.ntmps60
   go_wp2_with (first | ((with_reducible refine gate_dst (N:=7) rfl ?_);refine Kd.R_make (Kd.int .i64) _ 3 rfl (N:=7) rfl 25 _ _ rfl (l0.length : Int) rfl rfl Try.underlying25 (.int .i64 0) 8 info3 rfl (by decide) (by omega) 0 (ok:=fun _ => True) (okp:=fun _ => True) rfl (fun _ hk => hk) trivial (Up.od) (Nat.le_trans (Nat.mul_le_mul_right _ (Up.od : (l0.length : Int).toNat ≤ 35184372088832)) (by omega)) (Below.refl _ _) (Nat.le_refl _) ?_;intro v300 w4 ho5 hb hg_ hnew_;clear hg_ hnew_;(first | rw [← Ny299.out] at ho5 | (simp only [Int.reduceToNat] at ho5;rw [← Ny299.out] at ho5));have n0_:=Aside0.mk (Kd.R_lower ho5 (below_size (Up.Bup HB)));have n1_:=Up.BB HB hb;clear HB;have HO301:=n0_;have HB:=n1_;clear n0_ n1_ hb ho5))
   go_loopg [4] k (fun kq v4 w' => ∃ (x3_1 : List Int) (x4_1 : Int),v4 = .int .i64 x4_1 ∧ Aside0 (laws_toIntS.l0 kq l0 x3_1 x4_1 = some r) ∧ Aside0 (kq ≤ k) ∧ Aside0 (Kd.R (Kd.int .i64) 3 w' w.heap.size (fun _ => True) v300 x3_1) ∧ Aside0 (Below w.heap.size w w'))
   case atStart => exact ⟨(y299),(0),(by first | rfl | (simp;done) | (simp [*];done)),H',⟨Nat.le_refl _⟩,⟨Up.Rup HO301⟩,⟨Up.Bup HB⟩⟩
   case round =>
    clear H'
    try clear c2
    try clear c2b0
    try clear c2b1
    try clear p2
    try clear c3
    try clear c3b0
    try clear c3b1
    obtain ⟨x3_1,x4_1,rfl,HA,HK1,HO_3,HB⟩:=hrel
    cases gk with
    | zero => exact absurd HA.out (by simp [laws_toIntS.l0])
    | succ k1 =>
     have H:=HA.out
     clear HA
     simp only [laws_toIntS.l0] at H
     by_cases c6 : x4_1 < (l0.length : Int)
     ·rw [if_pos c6] at H
      have c6b0 : decide (x4_1 < (l0.length : Int)) = true:=decide_eq_true c6
      clear c6
      by_cases c7 : 0 ≤ x4_1
      ·rw [if_pos c7] at H
       have c7b0 : decide (0 ≤ x4_1) = true:=decide_eq_true c7
       clear c7
       by_cases c8 : x4_1 < (x3_1.length : Int)
       ·rw [if_pos c8] at H
        have c8b0 : decide (x4_1 < (x3_1.length : Int)) = true:=decide_eq_true c8
        clear c8
        obtain ⟨y303,hy303⟩ : ∃ y_ : List Int,y_ = (x3_1.set (x4_1 : Int).toNat (rd l0 x4_1)):=⟨_,rfl⟩
        replace H : (laws_toIntS.l0 k1 l0 y303 (wrap64 (x4_1 + 1))) = some r:=by first | (rw [hy303];with_reducible exact H) | (have H2_:=(Option.bind_some _ _).symm.trans H;rw [hy303];with_reducible exact H2_) | (have H2_:=(Option.bind_some _ _).symm.trans H;with_reducible exact H2_) | with_reducible exact H | (rw [hy303];exact H) | exact H
        have Ny303:=Aside0.mk hy303
        clear hy303
        have H':=Aside0.mk H
        clear H
        have p302 : 0 ≤ (x4_1 : Int):=Up.od
        have q302 : x4_1 < (l0.length : Int):=Up.od
        obtain ⟨ad302,e302,hx302_0⟩:=Kd.at_int HR0.out x4_1 p302 q302
        cases e302
        replace hx302_0:=Up.hc HB hx302_0
        replace p302:=eq_true p302
        replace q302:=eq_true q302
        have p9 : 0 ≤ (x4_1 : Int):=Up.od
        have q9 : (x4_1 : Int) < ((x3_1.length : Int) : Int):=Up.od
        obtain ⟨go9,co9,eo9,gb9,gl9,cl9,HG9⟩:=Kd.R_form HO_3.out (by omega)
        (first | cases eo9 | (injection eo9 with ea_ en_ ec_;(first | subst ea_ | (injection ea_ with ea_;subst ea_));subst ec_;clear en_))
        have GB9:=Aside0.mk gb9
        have GG9:=Aside0.mk HG9
        clear gb9 gl9 HG9
        obtain ⟨hx9_0,hf9_0⟩:=Kd.R_celln 0 HO_3.out (x4_1 : Int) p9 q9
        replace p9:=eq_true p9
        replace q9:=eq_true q9
        have HP10:=Kd.R_putg HO_3.out (x4_1 : Int) (rd l0 x4_1)
        go_wp2_with (first | ((with_reducible refine gate_store (t:=3) (p:=20) rfl ?_);refine store_event (t:=3) (p:=20) (v:=?vo_w11) (w1:=(wr.setCell ⟨go9,(x4_1 : Int).toNat,none⟩ (.int .i64 (rd l0 x4_1)))) ?hg ?ho ?hn ?hr ?_;(case ho => rfl);(case hg => rfl);(case hn => rfl);(case hr => first | (go_simp;done) | (go_simp;rfl));intro w11 hw;have hg : wr.grownBy w11 (some go9):=(by rw [hw];exact HP10.2);have hp_ : Kd.R (Kd.int .i64) 3 w11 w.heap.size (fun _ => True) (.slice (some ⟨go9,0,none⟩) x3_1.length co9) y303:=(by rw [hw,Ny303.out];exact HP10.1);clear HP10;have n0_:=Aside0.mk (hp_);have n1_:=Aside0.mk ((by rw [hw];exact below_set (HB.out) GB9.out : Below w.heap.size w w11));clear HO_3 HB;have HO_3:=n0_;have HB:=n1_;clear n0_ n1_ hg hw hp_))
        go_roundg k1
        case measure => have:=HK1.out;omega
        case rel => exact ⟨(y303),(wrap64 (x4_1 + 1)),(by first | rfl | (simp;done) | (simp [*];done)),H',⟨by have:=HK1.out;omega⟩,⟨Up.Rup HO_3⟩,⟨Up.Bup HB⟩⟩
       ·rw [if_neg c8] at H
        exact absurd H (by simp)
      ·rw [if_neg c7] at H
       exact absurd H (by simp)
     ·rw [if_neg c6] at H
      have c6b0 : decide (x4_1 < (l0.length : Int)) = false:=decide_eq_false c6
      clear c6
      obtain rfl:=Option.some.inj H
      go_wp2
      go_ret
      exact ⟨_,by first | rfl | (simp [errW_none,errW_some] <;> rfl) | (simp [*,errW_none,errW_some] <;> rfl),Up.Rup HO_3,Up.Bup HB⟩
  ·rw [if_neg c3] at H
   exact absurd H (by simp)
 ·rw [if_neg c2] at H
  exact absurd H (by simp)

/-! ### laws_toValueS: function 59 -/
def laws_toValueS.l0 : Nat → List (S39) → List (S27) → Int → Option ((List (S27)))
 | 0,_,_,_ => none
 | k + 1,x0,x3,x4 => if x4 < (x0.length : Int) then (if 0 ≤ x4 then (((fun (a0_0 : ByteArray) (a0_1 : Int) (l0_2 : List (S39)) (l0_3 : List Int) => ((fun (l0 : List (S39)) => if 0 ≤ (l0.length : Int) then (if ((l0.length : Int) : Int).toNat ≤ 3909374676536 then (laws_toValueS.l0 k l0 (List.replicate ((l0.length : Int) : Int).toNat z27) 0) else (none)) else (none)) l0_2).bind fun t307 => ((laws_toIntS.f k l0_3).bind fun t310 => (some (a0_0,a0_1,t307,t310)))) ((rd_T39 x0 x4).f0) ((rd_T39 x0 x4).f1) ((rd_T39 x0 x4).f2) ((rd_T39 x0 x4).f3)).bind fun bt290 => (if x4 < (x3.length : Int) then (laws_toValueS.l0 k x0 (x3.set (x4 : Int).toNat (⟨bt290.1,bt290.2.1,bt290.2.2.1,bt290.2.2.2⟩ : S27)) (wrap64 (x4 + 1))) else (none))) else (none)) else (some x3)
def laws_toValueS.f (k : Nat) (l0 : List (S39)) : Option ((List (S27))):=if 0 ≤ (l0.length : Int) then (if ((l0.length : Int) : Int).toNat ≤ 3909374676536 then (laws_toValueS.l0 k l0 (List.replicate ((l0.length : Int) : Int).toNat z27) 0) else (none)) else (none)
def laws_toValue.f (k : Nat) (a0_0 : ByteArray) (a0_1 : Int) (l0_2 : List (S39)) (l0_3 : List Int) : Option (ByteArray × Int × (List (S27)) × List Int):=(laws_toValueS.f k l0_2).bind fun t307 => ((laws_toIntS.f k l0_3).bind fun t310 => (some (a0_0,a0_1,t307,t310)))
theorem laws_toValueS.l0_eq (k : Nat) (x0 : List (S39)) (x3 : List (S27)) (x4 : Int) : laws_toValueS.l0 (k + 1) x0 x3 x4 = if x4 < (x0.length : Int) then (if 0 ≤ x4 then ((laws_toValue.f k ((rd_T39 x0 x4).f0) ((rd_T39 x0 x4).f1) ((rd_T39 x0 x4).f2) ((rd_T39 x0 x4).f3)).bind fun bt290 => (if x4 < (x3.length : Int) then (laws_toValueS.l0 k x0 (x3.set (x4 : Int).toNat (⟨bt290.1,bt290.2.1,bt290.2.2.1,bt290.2.2.2⟩ : S27)) (wrap64 (x4 + 1))) else (none))) else (none)) else (some x3):=rfl
theorem laws_toValueS.mono_l : ∀ k,(∀ y0 y1 y2,LeO (laws_toValueS.l0 k y0 y1 y2) (laws_toValueS.l0 (k + 1) y0 y1 y2))
 | 0 => fun _ _ _ r h => by simp [laws_toValueS.l0] at h
 | k + 1 => by
  have ih0:=laws_toValueS.mono_l k
  ·intro y0 y1 y2
   unfold laws_toValueS.l0
   dsimp only
   repeat' first
   | (with_reducible exact ih0 _ _ _)
   | (with_reducible exact laws_toIntS.mono _ _)
   | exact laws_toIntS.mono _ _
   | (with_reducible exact LeO.refl _)
   | (with_reducible exact LeO.none _)
   | (with_reducible refine LeO.ite ?_ ?_)
   | (with_reducible refine LeO.bind ?_ (fun _ => ?_))
   | exact ih0 _ _ _
   | exact LeO.none _
   | refine LeO.ite ?_ ?_
   | refine LeO.bind ?_ (fun _ => ?_)
theorem laws_toValueS.mono : ∀ a0 k,LeO (laws_toValueS.f k a0) (laws_toValueS.f (k + 1) a0):=by
 intro a0 k
 have ih0:=laws_toValueS.mono_l k
 unfold laws_toValueS.f
 repeat' first
   | (with_reducible exact ih0 _ _ _)
   | (with_reducible exact laws_toIntS.mono _ _)
   | exact laws_toIntS.mono _ _
   | (with_reducible exact LeO.refl _)
   | (with_reducible exact LeO.none _)
   | (with_reducible refine LeO.ite ?_ ?_)
   | (with_reducible refine LeO.bind ?_ (fun _ => ?_))
   | exact ih0 _ _ _
   | exact LeO.none _
   | refine LeO.ite ?_ ?_
   | refine LeO.bind ?_ (fun _ => ?_)
theorem laws_toValue.mono : ∀ a0 a1 a2 a3 k,LeO (laws_toValue.f k a0 a1 a2 a3) (laws_toValue.f (k + 1) a0 a1 a2 a3):=by
 intro a0 a1 a2 a3 k
 unfold laws_toValue.f
 repeat' first
   | (with_reducible exact laws_toIntS.mono _ _)
   | (with_reducible exact laws_toValueS.mono _ _)
   | (with_reducible exact LeO.refl _)
   | (with_reducible exact LeO.none _)
   | (with_reducible refine LeO.ite ?_ ?_)
   | (with_reducible refine LeO.bind ?_ (fun _ => ?_))
   | exact laws_toIntS.mono _ _
   | exact laws_toValueS.mono _ _
   | exact LeO.none _
   | refine LeO.ite ?_ ?_
   | refine LeO.bind ?_ (fun _ => ?_)
/-! ### of laws_toValue: function 22 -/
set_option maxHeartbeats 8000000 in
set_option maxRecDepth 100000 in
theorem laws_toValue.calls_of (k : Nat) (hS_ : ∀ (A0 : Option Addr) (c0 : Nat) (l0 : List (S39)) (r : List (S27)) (w : World) (hr0 : Kd.C k39 w A0 l0.length l0) (hc0 : l0.length ≤ c0) (h : laws_toValueS.f k l0 = some r),Calls Try.prog 59 #[.slice A0 l0.length c0] w fun e w' => ∃ v0_ : Value,e = .returned (v0_) ∧ Kd.R k27 27 w' w.heap.size (fun _ => True) v0_ r ∧ Below w.heap.size w w') (a0_0 : ByteArray) (a0_1 : Int) (A0_2 : Option Addr) (c0_2 : Nat) (l0_2 : List (S39)) (A0_3 : Option Addr) (c0_3 : Nat) (l0_3 : List Int) (r1 : ByteArray) (r2 : Int) (r3 : List (S27)) (r4 : List Int) (w : World) (hr0_2 : Kd.C k39 w A0_2 l0_2.length l0_2) (hc0_2 : l0_2.length ≤ c0_2) (hr0_3 : Kd.C (Kd.int .i64) w A0_3 l0_3.length l0_3) (hc0_3 : l0_3.length ≤ c0_3) (h : laws_toValue.f k a0_0 a0_1 l0_2 l0_3 = some (r1,r2,r3,r4)) :
  Calls Try.prog 22 #[.agg #[.string a0_0,.int .i64 a0_1,.slice A0_2 l0_2.length c0_2,.slice A0_3 l0_3.length c0_3]] w fun e w' => ∃ v2_ v3_ : Value,e = .returned (.agg #[.string r1,.int .i64 r2,v2_,v3_]) ∧ Kd.R k27 27 w' w.heap.size (fun k_ => some k_ ≠ (v3_ : Value).ownBlock) v2_ r3 ∧ Kd.R (Kd.int .i64) 3 w' w.heap.size (fun _ => True) v3_ r4 ∧ Below w.heap.size w w':=by
 have hu39:=Try.underlying39
 have hu27:=Try.underlying27
 have HR0_2:=Aside0.mk hr0_2
 have HC0_2:=Aside0.mk hc0_2
 clear hr0_2 hc0_2
 have HR0_3:=Aside0.mk hr0_3
 have HC0_3:=Aside0.mk hc0_3
 clear hr0_3 hc0_3
 have HB:=Aside0.mk (Below.refl w.heap.size w)
 have H : ((laws_toValueS.f k l0_2).bind fun t307 => ((laws_toIntS.f k l0_3).bind fun t310 => (some (a0_0,a0_1,t307,t310)))) = some (r1,r2,r3,r4):=h
 clear h
 replace H:=Option.bind_eq_some_iff.mp H
 obtain ⟨t307,A20,H⟩:=H
 replace H : ((laws_toIntS.f k l0_3).bind fun t310 => (some (a0_0,a0_1,t307,t310))) = some (r1,r2,r3,r4):=H
 have A2:=Aside0.mk A20
 clear A20
 replace H:=Option.bind_eq_some_iff.mp H
 obtain ⟨t310,A30,H⟩:=H
 replace H : (some (a0_0,a0_1,t307,t310)) = some (r1,r2,r3,r4):=H
 have A3:=Aside0.mk A30
 clear A30
 simp only [Option.some.injEq,Prod.mk.injEq] at H
 obtain ⟨rfl,rfl,rfl,rfl⟩:=H
 go_enter Try.func22,Try.ntmps22
 go_wp2_with (first | ((with_reducible refine gate_dst (N:=1) rfl ?_);refine Up.bx 1 39 #[.string a0_0,.int .i64 a0_1,.slice A0_2 l0_2.length c0_2,.slice A0_3 l0_3.length c0_3] ?_;intro gb304 hg w4 hbox hb;have n0_:=Up.BB HB hb;have n1_:=Aside0.mk (hbox);have n2_:=Up.gw hg HB;have n3_:=Up.gw hg HB;clear HB;have HB:=n0_;have BK304:=n1_;have GW304:=n2_;have GE304:=n3_;clear n0_ n1_ n2_ n3_ hb hbox hg) | ((with_reducible refine gate_dst (N:=2) rfl ?_);refine Up.bx 2 27 #[.string (⟨#[]⟩ : ByteArray),.int .i64 0,.slice none 0 0,.slice none 0 0] ?_;intro gb305 hg w5 hbox hb;have n0_:=Up.KB BK304 hb;have n1_:=Aside0.mk (below_step (Up.Bx HB) hb);have n2_:=Aside0.mk (hbox);have n3_:=Up.gw hg HB;have n4_:=Up.gw hg HB;have n5_:=Up.nl hg BK304;have n6_:=Up.ng hg BK304;clear BK304 HB;have BK304:=n0_;have HB:=n1_;have BK305:=n2_;have GW305:=n3_;have GE305:=n4_;have NB304_305:=n5_;have NB305_304:=n6_;clear n0_ n1_ n2_ n3_ n4_ n5_ n6_ hb hbox hg) | ((with_reducible refine gate_dst (N:=3) rfl ?_);refine Up.bx 3 27 #[.string (⟨#[]⟩ : ByteArray),.int .i64 0,.slice none 0 0,.slice none 0 0] ?_;intro gb306 hg w6 hbox hb;have n0_:=Up.KB BK304 hb;have n1_:=Up.KB BK305 hb;have n2_:=Aside0.mk (below_step (Up.Bx HB) hb);have n3_:=Aside0.mk (hbox);have n4_:=Up.gw hg HB;have n5_:=Up.gw hg HB;have n6_:=Up.nl hg BK304;have n7_:=Up.ng hg BK304;have n8_:=Up.nl hg BK305;have n9_:=Up.ng hg BK305;clear BK304 BK305 HB;have BK304:=n0_;have BK305:=n1_;have HB:=n2_;have BK306:=n3_;have GW306:=n4_;have GE306:=n5_;have NB304_306:=n6_;have NB306_304:=n7_;have NB305_306:=n8_;have NB306_305:=n9_;clear n0_ n1_ n2_ n3_ n4_ n5_ n6_ n7_ n8_ n9_ hb hbox hg;have hnb7:=NB304_305.out;have hnc7:=NB305_304.out;have hnb8:=NB304_306.out;have hnc8:=NB306_304.out;have hcz9_0:=Up.c0 BK304;have hcz9_1:=Up.c1 BK304;have hcz9_2:=Up.c2 BK304;have hcz9_3:=Up.c3 BK304;have hfz9_0:=blk_frozen BK304.out 0;have hfz9_1:=blk_frozen BK304.out 1;have hfz9_2:=blk_frozen BK304.out 2;have hfz9_3:=blk_frozen BK304.out 3;have hnb10:=NB306_305.out;have hnc10:=NB305_306.out;have hcz11_0:=Up.c0 BK306;have hcz11_1:=Up.c1 BK306;have hcz11_2:=Up.c2 BK306;have hcz11_3:=Up.c3 BK306;have hfz11_0:=blk_frozen BK306.out 0;have hfz11_1:=blk_frozen BK306.out 1;have hfz11_2:=blk_frozen BK306.out 2;have hfz11_3:=blk_frozen BK306.out 3) | ((with_reducible refine gate_callee (f:=59) rfl ?_);refine Up.gl (some 12) Try.func59 #[.slice A0_2 l0_2.length c0_2] ?_;(with_reducible refine (hS_ _ _ l0_2 t307 _ ?side1 ?side2 A2.out).mono ?_);(case side1 => exact Kd.C_below HR0_2.out (Up.Bx HB));(case side2 => exact HC0_2.out);rintro e w12 ⟨v308,rfl,ho0,hb⟩;refine ⟨_,rfl,?_⟩;have n0_:=Aside0.mk (Kd.R_lower (Kd.R_newB (Kd.R_newB ho0 (g:=gb305) (o:=.cells #[.string (⟨#[]⟩ : ByteArray),.int .i64 0,.slice none 0 0,.slice none 0 0] 27 (0,0)) (Up.Kx BK305)) (g:=gb306) (o:=.cells #[.string a0_0,.int .i64 a0_1,.slice none 0 0,.slice none 0 0] 27 (0,0)) (Up.Kx BK306)) (below_size (Up.Bx HB)));have n1_:=Aside0.mk (blk_below (g:=gb304) (o:=.cells #[.string a0_0,.int .i64 a0_1,.slice A0_2 l0_2.length c0_2,.slice A0_3 l0_3.length c0_3] 39 (0,0)) (Up.Kx BK304) hb);have n2_:=Aside0.mk (blk_below (g:=gb305) (o:=.cells #[.string (⟨#[]⟩ : ByteArray),.int .i64 0,.slice none 0 0,.slice none 0 0] 27 (0,0)) (Up.Kx BK305) hb);have n3_:=Aside0.mk (blk_below (g:=gb306) (o:=.cells #[.string a0_0,.int .i64 a0_1,.slice none 0 0,.slice none 0 0] 27 (0,0)) (Up.Kx BK306) hb);have n4_:=Aside0.mk (below_step (Up.Bx HB) hb);clear BK304 BK305 BK306 HB;have HO309:=n0_;have BK304:=n1_;have BK305:=n2_;have BK306:=n3_;have HB:=n4_;clear n0_ n1_ n2_ n3_ n4_;(try clear hb);(try clear hb2);(try clear hk);(try clear hi);(try clear ho0);obtain ⟨Ao13,co13,eo13⟩:=Kd.R_slice HO309.out;subst eo13;have hcz14_0:=Up.c0 BK306;have hcz14_1:=Up.c1 BK306;have hcz14_2:=Up.c2 BK306;have hcz14_3:=Up.c3 BK306;have hfz14_0:=blk_frozen BK306.out 0;have hfz14_1:=blk_frozen BK306.out 1;have hfz14_2:=blk_frozen BK306.out 2;have hfz14_3:=blk_frozen BK306.out 3;have hcz15_0:=Up.c0 BK304;have hcz15_1:=Up.c1 BK304;have hcz15_2:=Up.c2 BK304;have hcz15_3:=Up.c3 BK304;have hfz15_0:=blk_frozen BK304.out 0;have hfz15_1:=blk_frozen BK304.out 1;have hfz15_2:=blk_frozen BK304.out 2;have hfz15_3:=blk_frozen BK304.out 3) | ((with_reducible refine gate_callee (f:=60) rfl ?_);refine Up.gl (some 16) Try.func60 #[.slice A0_3 l0_3.length c0_3] ?_;(with_reducible refine (laws_toIntS.calls k _ _ l0_3 t310 _ ?side1 ?side2 A3.out).mono ?_);(case side1 => exact Kd.C_below HR0_3.out (Up.Bx HB));(case side2 => exact HC0_3.out);rintro e w16 ⟨v311,rfl,ho0,hb⟩;refine ⟨_,rfl,?_⟩;have n0_:=Aside0.mk (Kd.R_elder' (by (with_reducible repeat (first | apply Kd.R_alloc | apply Kd.R_drewN | apply Kd.R_drew));exact (Kd.R_mono (Kd.R_far (p:=⟨gb306,2,none⟩) (Kd.R_mono HO309.out (fun k_ hk => (⟨hk,hk.2⟩ : _ ∧ k_ ≠ gb306))) (fun _ hk => hk.2) (.slice Ao13 t307.length co13)) (fun _ h_ => h_.1))) (Kd.R_base ho0) hb);have n1_:=Aside0.mk (Kd.R_lower ho0 (below_size (Up.Bx HB)));have n2_:=Aside0.mk (blk_below (g:=gb304) (o:=.cells #[.string a0_0,.int .i64 a0_1,.slice A0_2 l0_2.length c0_2,.slice A0_3 l0_3.length c0_3] 39 (0,0)) (Up.Kx BK304) hb);have n3_:=Aside0.mk (blk_below (g:=gb305) (o:=.cells #[.string (⟨#[]⟩ : ByteArray),.int .i64 0,.slice none 0 0,.slice none 0 0] 27 (0,0)) (Up.Kx BK305) hb);have n4_:=Aside0.mk (blk_below (g:=gb306) (o:=.cells #[.string a0_0,.int .i64 a0_1,.slice Ao13 t307.length co13,.slice none 0 0] 27 (0,0)) (Up.Kx BK306) hb);have n5_:=Aside0.mk (below_step (Up.Bx HB) hb);clear HO309 BK304 BK305 BK306 HB;have HO309:=n0_;have HO312:=n1_;have BK304:=n2_;have BK305:=n3_;have BK306:=n4_;have HB:=n5_;clear n0_ n1_ n2_ n3_ n4_ n5_;(try clear hb);(try clear hb2);(try clear hk);(try clear hi);(try clear ho0);obtain ⟨Ao17,co17,eo17⟩:=Kd.R_slice HO312.out;subst eo17;have hcz18_0:=Up.c0 BK306;have hcz18_1:=Up.c1 BK306;have hcz18_2:=Up.c2 BK306;have hcz18_3:=Up.c3 BK306;have hfz18_0:=blk_frozen BK306.out 0;have hfz18_1:=blk_frozen BK306.out 1;have hfz18_2:=blk_frozen BK306.out 2;have hfz18_3:=blk_frozen BK306.out 3;have hcz19_0:=Up.c0 BK305;have hcz19_1:=Up.c1 BK305;have hcz19_2:=Up.c2 BK305;have hcz19_3:=Up.c3 BK305;have hfz19_0:=blk_frozen BK305.out 0;have hfz19_1:=blk_frozen BK305.out 1;have hfz19_2:=blk_frozen BK305.out 2;have hfz19_3:=blk_frozen BK305.out 3))
 refine bodyPost_ret (results_cell_row rfl _ _ gb305 27 #[.string a0_0,.int .i64 a0_1,.slice Ao13 t307.length co13,.slice Ao17 t310.length co17] (0,0) _ rfl (Up.Kx BK305) Try.underlying27 rfl (by kernel_rfl)) rfl ?_
 exact ⟨_,_,by first | rfl | (simp [errW_none,errW_some] <;> rfl) | (simp [*,errW_none,errW_some] <;> rfl),by (with_reducible repeat (first | apply Kd.R_alloc | apply Kd.R_drewN | apply Kd.R_drew));exact Kd.R_mono (Kd.R_far (p:=⟨gb305,3,none⟩) (Kd.R_far (p:=⟨gb305,2,none⟩) (Kd.R_far (p:=⟨gb305,1,none⟩) (Kd.R_far (p:=⟨gb305,0,none⟩) (Kd.R_far (p:=⟨gb306,3,none⟩) (Kd.R_mono (Kd.R_mono HO309.out (fun k_ hk => (⟨hk,hk.1.2⟩ : _ ∧ k_ ≠ gb306))) (fun k_ hk => (⟨hk,hk.1.1.1.2⟩ : _ ∧ k_ ≠ gb305))) (fun _ hk => hk.1.2) (.slice Ao17 t310.length co17)) (fun _ hk => hk.2) (.string a0_0)) (fun _ hk => hk.2) (.int .i64 a0_1)) (fun _ hk => hk.2) (.slice Ao13 t307.length co13)) (fun _ hk => hk.2) (.slice Ao17 t310.length co17)) (fun _ hk => hk.1.1.2),by (with_reducible repeat (first | apply Kd.R_alloc | apply Kd.R_drewN | apply Kd.R_drew));exact Kd.R_mono (Kd.R_far (p:=⟨gb305,3,none⟩) (Kd.R_far (p:=⟨gb305,2,none⟩) (Kd.R_far (p:=⟨gb305,1,none⟩) (Kd.R_far (p:=⟨gb305,0,none⟩) (Kd.R_far (p:=⟨gb306,3,none⟩) (Kd.R_types (Kd.R_types HO312.out BK306.out (by decide)) BK305.out (by decide)) (fun _ hk => hk.1.2) (.slice Ao17 t310.length co17)) (fun _ hk => hk.2) (.string a0_0)) (fun _ hk => hk.2) (.int .i64 a0_1)) (fun _ hk => hk.2) (.slice Ao13 t307.length co13)) (fun _ hk => hk.2) (.slice Ao17 t310.length co17)) (fun _ hk => trivial),Up.Bx HB⟩
set_option maxHeartbeats 8000000 in
set_option maxRecDepth 100000 in
theorem laws_toValueS.calls (k : Nat) : ∀ (A0 : Option Addr) (c0 : Nat) (l0 : List (S39)) (r : List (S27)) (w : World) (hr0 : Kd.C k39 w A0 l0.length l0) (hc0 : l0.length ≤ c0) (h : laws_toValueS.f k l0 = some r),Calls Try.prog 59 #[.slice A0 l0.length c0] w fun e w' => ∃ v0_ : Value,e = .returned (v0_) ∧ Kd.R k27 27 w' w.heap.size (fun _ => True) v0_ r ∧ Below w.heap.size w w':=by
 refine Nat.strongRecOn (motive:=fun k => ∀ (A0 : Option Addr) (c0 : Nat) (l0 : List (S39)) (r : List (S27)) (w : World) (hr0 : Kd.C k39 w A0 l0.length l0) (hc0 : l0.length ≤ c0) (h : laws_toValueS.f k l0 = some r),Calls Try.prog 59 #[.slice A0 l0.length c0] w fun e w' => ∃ v0_ : Value,e = .returned (v0_) ∧ Kd.R k27 27 w' w.heap.size (fun _ => True) v0_ r ∧ Below w.heap.size w w') k (fun k ihS_ => ?_)
 intro A0 c0 l0 r w hr0 hc0 h
 have hu39:=Try.underlying39
 have hu27:=Try.underlying27
 have HR0:=Aside0.mk hr0
 have HC0:=Aside0.mk hc0
 clear hr0 hc0
 have HB:=Aside0.mk (Below.refl w.heap.size w)
 have H : (if 0 ≤ (l0.length : Int) then (if ((l0.length : Int) : Int).toNat ≤ 3909374676536 then (laws_toValueS.l0 k l0 (List.replicate ((l0.length : Int) : Int).toNat z27) 0) else (none)) else (none)) = some r:=h
 clear h
 by_cases c2 : 0 ≤ (l0.length : Int)
 ·rw [if_pos c2] at H
  have c2b0:=eq_true c2
  have c2b1 : decide (0 ≤ (l0.length : Int)) = true:=decide_eq_true c2
  clear c2
  by_cases c3 : ((l0.length : Int) : Int).toNat ≤ 3909374676536
  ·rw [if_pos c3] at H
   have c3b0:=eq_true c3
   have c3b1 : decide (((l0.length : Int) : Int).toNat ≤ 3909374676536) = true:=decide_eq_true c3
   clear c3
   obtain ⟨y286,hy286⟩ : ∃ y_ : List (S27),y_ = (List.replicate ((l0.length : Int) : Int).toNat z27):=⟨_,rfl⟩
   replace H : (laws_toValueS.l0 k l0 y286 0) = some r:=by first | (rw [hy286];with_reducible exact H) | (have H2_:=(Option.bind_some _ _).symm.trans H;rw [hy286];with_reducible exact H2_) | (have H2_:=(Option.bind_some _ _).symm.trans H;with_reducible exact H2_) | with_reducible exact H | (rw [hy286];exact H) | exact H
   have Ny286:=Aside0.mk hy286
   clear hy286
   have H':=Aside0.mk H
   clear H
   go_enter Try.func59,Try.ntmps59
   go_wp2_with (first | ((with_reducible refine gate_dst (N:=7) rfl ?_);refine Kd.R_make k27 _ 27 rfl (N:=7) rfl 24 _ _ rfl (l0.length : Int) rfl rfl Try.underlying24 (.agg #[(.string ⟨#[]⟩),(.int .i64 0),(.slice none 0 0),(.slice none 0 0)]) 72 info27 rfl (by decide) (by omega) z27 (ok:=fun _ => True) (okp:=fun _ => True) (k27_mkM _ _ _ z27 (Kd.R_nil _ _ _ _ _) (Kd.R_nil _ _ _ _ _)) (fun _ hk => hk) trivial (Up.od) (Nat.le_trans (Nat.mul_le_mul_right _ (Up.od : (l0.length : Int).toNat ≤ 3909374676536)) (by omega)) (Below.refl _ _) (Nat.le_refl _) ?_;intro v287 w4 ho5 hb hg_ hnew_;clear hg_ hnew_;(first | rw [← Ny286.out] at ho5 | (simp only [Int.reduceToNat] at ho5;rw [← Ny286.out] at ho5));have n0_:=Aside0.mk (Kd.R_lower ho5 (below_size (Up.Bup HB)));have n1_:=Up.BB HB hb;clear HB;have HO288:=n0_;have HB:=n1_;clear n0_ n1_ hb ho5))
   go_loopg [4] k (fun kq v4 w' => ∃ (x3_1 : List (S27)) (x4_1 : Int),v4 = .int .i64 x4_1 ∧ Aside0 (laws_toValueS.l0 kq l0 x3_1 x4_1 = some r) ∧ Aside0 (kq ≤ k) ∧ Aside0 (Kd.R k27 27 w' w.heap.size (fun _ => True) v287 x3_1) ∧ Aside0 (Below w.heap.size w w'))
   case atStart => exact ⟨(y286),(0),(by first | rfl | (simp;done) | (simp [*];done)),H',⟨Nat.le_refl _⟩,⟨Up.Rup HO288⟩,⟨Up.Bup HB⟩⟩
   case round =>
    clear H'
    try clear c2
    try clear c2b0
    try clear c2b1
    try clear p2
    try clear c3
    try clear c3b0
    try clear c3b1
    try clear c5
    obtain ⟨x3_1,x4_1,rfl,HA,HK1,HO_3,HB⟩:=hrel
    cases gk with
    | zero => exact absurd HA.out (by simp [laws_toValueS.l0])
    | succ k1 =>
     have H:=HA.out
     clear HA
     simp only [laws_toValueS.l0_eq] at H
     by_cases c6 : x4_1 < (l0.length : Int)
     ·rw [if_pos c6] at H
      have c6b0 : decide (x4_1 < (l0.length : Int)) = true:=decide_eq_true c6
      clear c6
      by_cases c7 : 0 ≤ x4_1
      ·rw [if_pos c7] at H
       have c7b0 : decide (0 ≤ x4_1) = true:=decide_eq_true c7
       clear c7
       replace H:=Option.bind_eq_some_iff.mp H
       obtain ⟨⟨t290,t291,t292,t295⟩,A80,H⟩:=H
       replace H : (if x4_1 < (x3_1.length : Int) then (laws_toValueS.l0 k1 l0 (x3_1.set (x4_1 : Int).toNat (⟨t290,t291,t292,t295⟩ : S27)) (wrap64 (x4_1 + 1))) else (none)) = some r:=H
       have A8:=Aside0.mk A80
       clear A80
       by_cases c9 : x4_1 < (x3_1.length : Int)
       ·rw [if_pos c9] at H
        have c9b0 : decide (x4_1 < (x3_1.length : Int)) = true:=decide_eq_true c9
        clear c9
        obtain ⟨y298,hy298⟩ : ∃ y_ : List (S27),y_ = (x3_1.set (x4_1 : Int).toNat (⟨t290,t291,t292,t295⟩ : S27)):=⟨_,rfl⟩
        replace H : (laws_toValueS.l0 k1 l0 y298 (wrap64 (x4_1 + 1))) = some r:=by first | (rw [hy298];with_reducible exact H) | (have H2_:=(Option.bind_some _ _).symm.trans H;rw [hy298];with_reducible exact H2_) | (have H2_:=(Option.bind_some _ _).symm.trans H;with_reducible exact H2_) | with_reducible exact H | (rw [hy298];exact H) | exact H
        have Ny298:=Aside0.mk hy298
        clear hy298
        have H':=Aside0.mk H
        clear H
        have p289 : 0 ≤ (x4_1 : Int):=Up.od
        have q289 : x4_1 < (l0.length : Int):=Up.od
        obtain ⟨ad289,A289_2,c289_2,A289_3,c289_3,e289,hx289_0,hx289_1,hx289_2,hx289_3,hl289_2,hi289_2,hl289_3,hi289_3⟩:=at_T39 HR0.out x4_1 p289 q289
        cases e289
        replace hx289_0:=Up.hc HB hx289_0
        replace hx289_1:=Up.hc HB hx289_1
        replace hx289_2:=Up.hc HB hx289_2
        replace hx289_3:=Up.hc HB hx289_3
        have HR289_2:=Aside0.mk hi289_2
        have HC289_2:=Aside0.mk hl289_2
        clear hi289_2 hl289_2
        have HR289_3:=Aside0.mk hi289_3
        have HC289_3:=Aside0.mk hl289_3
        clear hi289_3 hl289_3
        replace p289:=eq_true p289
        replace q289:=eq_true q289
        go_wp2_with (first | ((with_reducible refine gate_callee (f:=22) rfl ?_);refine Up.gl (some 20) Try.func22 #[.agg #[.string ((rd_T39 l0 x4_1).f0),.int .i64 ((rd_T39 l0 x4_1).f1),.slice A289_2 ((rd_T39 l0 x4_1).f2).length c289_2,.slice A289_3 ((rd_T39 l0 x4_1).f3).length c289_3]] ?_;(with_reducible refine (laws_toValue.calls_of k1 (ihS_ k1 (by have h_:=HK1.out;omega)) ((rd_T39 l0 x4_1).f0) ((rd_T39 l0 x4_1).f1) _ _ ((rd_T39 l0 x4_1).f2) _ _ ((rd_T39 l0 x4_1).f3) t290 t291 t292 t295 _ ?side1 ?side2 ?side3 ?side4 A8.out).mono ?_);(case side1 => exact Up.Cx HR289_2 HB);(case side2 => exact HC289_2.out);(case side3 => exact Up.Cx HR289_3 HB);(case side4 => exact HC289_3.out);rintro e w11 ⟨v293,v296,rfl,ho0,ho1,hb⟩;refine ⟨_,rfl,?_⟩;have n0_:=Aside0.mk (Kd.R_mono (Kd.R_told (Kd.R_told (Kd.R_old (Up.Rup HO_3) hb) (Kd.R_base ho0)) (Kd.R_base ho1)) (fun _ h_ => h_.1));have n1_:=Aside0.mk (Kd.R_lower (Kd.R_new' ho0 (Kd.R_lt (Up.Rup HO_3))) (below_size (Up.Bup HB)));have n2_:=Aside0.mk (Kd.R_lower ho1 (below_size (Up.Bup HB)));have n3_:=Up.BB HB hb;clear HO_3 HB;have HO_3:=n0_;have HO294:=n1_;have HO297:=n2_;have HB:=n3_;clear n0_ n1_ n2_ n3_;(try clear hb);(try clear hb2);(try clear hk);(try clear hi);(try clear ho0);(try clear ho1);(have hsvv293_ : ∀ (a_ : Addr) (m_ : Mode) (W_ : World),(Go.store a_ v293 m_).run Try.prog W_ = stored Try.prog W_ a_ v293 m_:=fun a_ m_ W_ => run_store _ W_ a_ _ m_ (by first | (obtain ⟨_,_,e_⟩:=Kd.R_slice HO294.out;rw [e_];rfl) | (obtain ⟨_,_,e_⟩:=Kd.R_slice (Kd.S_R HO294.out);rw [e_];rfl)));(have hcvv293_ : (v293 : Value).cells = #[v293]:=(by first | (obtain ⟨_,_,e_⟩:=Kd.R_slice HO294.out;rw [e_];rfl) | (obtain ⟨_,_,e_⟩:=Kd.R_slice (Kd.S_R HO294.out);rw [e_];rfl)));(have hsvv296_ : ∀ (a_ : Addr) (m_ : Mode) (W_ : World),(Go.store a_ v296 m_).run Try.prog W_ = stored Try.prog W_ a_ v296 m_:=fun a_ m_ W_ => run_store _ W_ a_ _ m_ (by first | (obtain ⟨_,_,e_⟩:=Kd.R_slice HO297.out;rw [e_];rfl) | (obtain ⟨_,_,e_⟩:=Kd.R_slice (Kd.S_R HO297.out);rw [e_];rfl)));(have hcvv296_ : (v296 : Value).cells = #[v296]:=(by first | (obtain ⟨_,_,e_⟩:=Kd.R_slice HO297.out;rw [e_];rfl) | (obtain ⟨_,_,e_⟩:=Kd.R_slice (Kd.S_R HO297.out);rw [e_];rfl)));have p10 : 0 ≤ (x4_1 : Int):=Up.od;have q10 : (x4_1 : Int) < ((x3_1.length : Int) : Int):=Up.od;obtain ⟨go10,co10,eo10,gb10,gl10,cl10,HG10⟩:=Kd.R_form HO_3.out (by omega);(first | cases eo10 | (injection eo10 with ea_ en_ ec_;(first | subst ea_ | (injection ea_ with ea_;subst ea_));subst ec_;clear en_));have GB10:=Aside0.mk gb10;have GG10:=Aside0.mk HG10;clear gb10 gl10 HG10;obtain ⟨ce10,hcl10,hM10,hcc10,hfr10⟩:=Kd.R_elem HO_3.out z27 (x4_1 : Int) p10 q10;obtain ⟨ve10_2,ve10_3,rfl,ge10_2,ge10_3⟩:=k27_openM hM10;have hx10_0 : w11.cell? ⟨go10,(x4_1 : Int).toNat * 4,none⟩ = some (.string ((rd_T27 x3_1 x4_1).f0)):=hcc10 0 _ rfl;have hx10_1 : w11.cell? ⟨go10,(x4_1 : Int).toNat * 4 + 1,none⟩ = some (.int .i64 ((rd_T27 x3_1 x4_1).f1)):=hcc10 1 _ rfl;have hx10_2 : w11.cell? ⟨go10,(x4_1 : Int).toNat * 4 + 2,none⟩ = some (ve10_2):=hcc10 2 _ rfl;have hx10_3 : w11.cell? ⟨go10,(x4_1 : Int).toNat * 4 + 3,none⟩ = some (ve10_3):=hcc10 3 _ rfl;have hf10_0 : w11.frozen? ⟨go10,(x4_1 : Int).toNat * 4,none⟩ = false:=hfr10 0;have hf10_1 : w11.frozen? ⟨go10,(x4_1 : Int).toNat * 4 + 1,none⟩ = false:=hfr10 1;have hf10_2 : w11.frozen? ⟨go10,(x4_1 : Int).toNat * 4 + 2,none⟩ = false:=hfr10 2;have hf10_3 : w11.frozen? ⟨go10,(x4_1 : Int).toNat * 4 + 3,none⟩ = false:=hfr10 3;clear hcl10 hcc10 hfr10 hM10;replace p10:=eq_true p10;replace q10:=eq_true q10;have n_:=Aside0.mk (Kd.R_mono (ok':=(fun k_ => some k_ ≠ (v293 : Value).ownBlock ∧ some k_ ≠ (v296 : Value).ownBlock)) HO_3.out (fun k_ hk => ⟨hk.1.2,hk.2⟩));clear HO_3;have HO_3:=n_;clear n_;have HX12:=Aside0.mk (show Kd.R k27 27 w11 w.heap.size (fun _ => True) (.slice (some ⟨go10,0,none⟩) x3_1.length co10) x3_1 from (Up.Rq (Kd.R_mono HO_3.out (fun _ hk => trivial))));obtain ⟨ce12,hcl12,hM12,hcc12,hfr12⟩:=Kd.R_elem HX12.out z27 (x4_1 : Int) (Up.od) (by have h_ : (x4_1 : Int) < ((x3_1.length : Int) : Int):=Up.od;first | exact h_ | (have e_:=(Kd.R_reads' HO_3.out).1;omega) | simpa using h_);obtain ⟨ve12_2,ve12_3,rfl,ge12_2,ge12_3⟩:=k27_openM hM12;have HP12:=Kd.R_seg HX12.out (x4_1 : Int) (Up.od) (by have h_ : (x4_1 : Int) < ((x3_1.length : Int) : Int):=Up.od;first | exact h_ | (have e_:=(Kd.R_reads' HO_3.out).1;omega) | simpa using h_) (seg:=[.string t290,.int .i64 t291,v293,v296]) (j:=0) hcl12 hcc12 (show 4 ≤ 4 from by decide) (x':=(⟨t290,t291,t292,t295⟩ : S27)) (k27_mkM _ _ _ (⟨t290,t291,t292,t295⟩ : S27) (Kd.R_mono (HO294.out) (fun k_ hk => ⟨trivial,fun e_ => (hk.2) (by rw [e_];rfl)⟩)) (Kd.R_mono (Kd.R_apart' (HO297.out) (Kd.R_typed HO_3.out) (by decide)) (fun k_ hk => ⟨trivial,fun e_ => (hk.2) (by rw [e_];rfl)⟩))) (fun _ hk => hk);have hx12_0:=hcc12 0 _ rfl;(try simp only [show (k27).sz = 4 from rfl,Nat.mul_one,Nat.add_zero] at hx12_0);have hf12_0:=hfr12 0;(try simp only [show (k27).sz = 4 from rfl,Nat.mul_one,Nat.add_zero] at hf12_0);have hx12_1:=hcc12 1 _ rfl;(try simp only [show (k27).sz = 4 from rfl,Nat.mul_one,Nat.add_zero] at hx12_1);have hf12_1:=hfr12 1;(try simp only [show (k27).sz = 4 from rfl,Nat.mul_one,Nat.add_zero] at hf12_1);have hx12_2:=hcc12 2 _ rfl;(try simp only [show (k27).sz = 4 from rfl,Nat.mul_one,Nat.add_zero] at hx12_2);have hf12_2:=hfr12 2;(try simp only [show (k27).sz = 4 from rfl,Nat.mul_one,Nat.add_zero] at hf12_2);have hx12_3:=hcc12 3 _ rfl;(try simp only [show (k27).sz = 4 from rfl,Nat.mul_one,Nat.add_zero] at hx12_3);have hf12_3:=hfr12 3;(try simp only [show (k27).sz = 4 from rfl,Nat.mul_one,Nat.add_zero] at hf12_3);clear hcl12 hcc12 hfr12 hM12) | ((with_reducible refine gate_store (t:=27) (p:=21) rfl ?_);refine store_event (t:=27) (p:=21) (v:=?vo_w13) (w1:=((((w11.setCell ⟨go10,(x4_1 : Int).toNat * 4,none⟩ (.string t290)).setCell ⟨go10,(x4_1 : Int).toNat * 4 + 1,none⟩ (.int .i64 t291)).setCell ⟨go10,(x4_1 : Int).toNat * 4 + 2,none⟩ (v293)).setCell ⟨go10,(x4_1 : Int).toNat * 4 + 3,none⟩ (v296))) ?hg ?ho ?hn ?hr ?_;(case ho => rfl);(case hg => rfl);(case hn => rfl);(case hr => first | (go_simp;done) | (go_simp;rfl));intro w13 hw;have hg : w11.grownBy w13 (some go10):=(by rw [hw];exact HP12.2);have hp_ : Kd.R k27 27 w13 w.heap.size (fun _ => True) (.slice (some ⟨go10,0,none⟩) x3_1.length co10) y298:=(by rw [hw,Ny298.out];exact HP12.1);clear HP12;have n0_:=Aside0.mk (hp_);have n1_:=Aside0.mk ((by rw [hw];exact below_set (below_set (below_set (below_set (HB.out) GB10.out) GB10.out) GB10.out) GB10.out : Below w.heap.size w w13));clear HO_3 HB HO294 HO297;have HO_3:=n0_;have HB:=n1_;clear n0_ n1_ hg hw hp_))
        go_roundg k1
        case measure => have:=HK1.out;omega
        case rel => exact ⟨(y298),(wrap64 (x4_1 + 1)),(by first | rfl | (simp;done) | (simp [*];done)),H',⟨by have:=HK1.out;omega⟩,⟨Up.Rup HO_3⟩,⟨Up.Bup HB⟩⟩
       ·rw [if_neg c9] at H
        exact absurd H (by simp)
      ·rw [if_neg c7] at H
       exact absurd H (by simp)
     ·rw [if_neg c6] at H
      have c6b0 : decide (x4_1 < (l0.length : Int)) = false:=decide_eq_false c6
      clear c6
      obtain rfl:=Option.some.inj H
      go_wp2
      go_ret
      exact ⟨_,by first | rfl | (simp [errW_none,errW_some] <;> rfl) | (simp [*,errW_none,errW_some] <;> rfl),Up.Rup HO_3,Up.Bup HB⟩
  ·rw [if_neg c3] at H
   exact absurd H (by simp)
 ·rw [if_neg c2] at H
  exact absurd H (by simp)
theorem laws_toValue.calls (k : Nat) (a0_0 : ByteArray) (a0_1 : Int) (A0_2 : Option Addr) (c0_2 : Nat) (l0_2 : List (S39)) (A0_3 : Option Addr) (c0_3 : Nat) (l0_3 : List Int) (r1 : ByteArray) (r2 : Int) (r3 : List (S27)) (r4 : List Int) (w : World) (hr0_2 : Kd.C k39 w A0_2 l0_2.length l0_2) (hc0_2 : l0_2.length ≤ c0_2) (hr0_3 : Kd.C (Kd.int .i64) w A0_3 l0_3.length l0_3) (hc0_3 : l0_3.length ≤ c0_3) (h : laws_toValue.f k a0_0 a0_1 l0_2 l0_3 = some (r1,r2,r3,r4)) :
  Calls Try.prog 22 #[.agg #[.string a0_0,.int .i64 a0_1,.slice A0_2 l0_2.length c0_2,.slice A0_3 l0_3.length c0_3]] w fun e w' => ∃ v2_ v3_ : Value,e = .returned (.agg #[.string r1,.int .i64 r2,v2_,v3_]) ∧ Kd.R k27 27 w' w.heap.size (fun k_ => some k_ ≠ (v3_ : Value).ownBlock) v2_ r3 ∧ Kd.R (Kd.int .i64) 3 w' w.heap.size (fun _ => True) v3_ r4 ∧ Below w.heap.size w w':=laws_toValue.calls_of k (laws_toValueS.calls k) a0_0 a0_1 A0_2 c0_2 l0_2 A0_3 c0_3 l0_3 r1 r2 r3 r4 w hr0_2 hc0_2 hr0_3 hc0_3 h

/-! ### laws_toKept: function 74 -/
def laws_toKept.f (k : Nat) (a0_0 : Int) (a0_1 : ByteArray) (a0_2 : Int) (l0_3 : List (S39)) (l0_4 : List Int) : Option (Int × ByteArray × Int × (List (S27)) × List Int):=(laws_toValue.f k a0_1 a0_2 l0_3 l0_4).bind fun bt316 => (some (a0_0,bt316.1,bt316.2.1,bt316.2.2.1,bt316.2.2.2))
theorem laws_toKept.mono : ∀ a0 a1 a2 a3 a4 k,LeO (laws_toKept.f k a0 a1 a2 a3 a4) (laws_toKept.f (k + 1) a0 a1 a2 a3 a4):=by
 intro a0 a1 a2 a3 a4 k
 unfold laws_toKept.f
 repeat' first
   | (with_reducible exact laws_toValue.mono _ _ _ _ _)
   | (with_reducible exact LeO.refl _)
   | (with_reducible exact LeO.none _)
   | (with_reducible refine LeO.ite ?_ ?_)
   | (with_reducible refine LeO.bind ?_ (fun _ => ?_))
   | exact laws_toValue.mono _ _ _ _ _
   | exact LeO.none _
   | refine LeO.ite ?_ ?_
   | refine LeO.bind ?_ (fun _ => ?_)
set_option maxHeartbeats 8000000 in
set_option maxRecDepth 100000 in
theorem laws_toKept.calls (k : Nat) (a0_0 : Int) (a0_1 : ByteArray) (a0_2 : Int) (A0_3 : Option Addr) (c0_3 : Nat) (l0_3 : List (S39)) (A0_4 : Option Addr) (c0_4 : Nat) (l0_4 : List Int) (r1 : Int) (r2 : ByteArray) (r3 : Int) (r4 : List (S27)) (r5 : List Int) (w : World) (hr0_3 : Kd.C k39 w A0_3 l0_3.length l0_3) (hc0_3 : l0_3.length ≤ c0_3) (hr0_4 : Kd.C (Kd.int .i64) w A0_4 l0_4.length l0_4) (hc0_4 : l0_4.length ≤ c0_4) (h : laws_toKept.f k a0_0 a0_1 a0_2 l0_3 l0_4 = some (r1,r2,r3,r4,r5)) :
  Calls Try.prog 74 #[.agg #[.int .i64 a0_0,.string a0_1,.int .i64 a0_2,.slice A0_3 l0_3.length c0_3,.slice A0_4 l0_4.length c0_4]] w fun e w' => ∃ v3_ v4_ : Value,e = .returned (.agg #[.int .i64 r1,.string r2,.int .i64 r3,v3_,v4_]) ∧ Kd.R k27 27 w' w.heap.size (fun k_ => some k_ ≠ (v4_ : Value).ownBlock) v3_ r4 ∧ Kd.R (Kd.int .i64) 3 w' w.heap.size (fun _ => True) v4_ r5 ∧ Below w.heap.size w w':=by
 have hu96:=Try.underlying96
 have hu55:=Try.underlying55
 have hu39:=Try.underlying39
 have hu27:=Try.underlying27
 have HR0_3:=Aside0.mk hr0_3
 have HC0_3:=Aside0.mk hc0_3
 clear hr0_3 hc0_3
 have HR0_4:=Aside0.mk hr0_4
 have HC0_4:=Aside0.mk hc0_4
 clear hr0_4 hc0_4
 have HB:=Aside0.mk (Below.refl w.heap.size w)
 have H : ((laws_toValue.f k a0_1 a0_2 l0_3 l0_4).bind fun bt316 => (some (a0_0,bt316.1,bt316.2.1,bt316.2.2.1,bt316.2.2.2))) = some (r1,r2,r3,r4,r5):=h
 clear h
 replace H:=Option.bind_eq_some_iff.mp H
 obtain ⟨⟨t316,t317,t318,t321⟩,A20,H⟩:=H
 replace H : (some (a0_0,t316,t317,t318,t321)) = some (r1,r2,r3,r4,r5):=H
 have A2:=Aside0.mk A20
 clear A20
 simp only [Option.some.injEq,Prod.mk.injEq] at H
 obtain ⟨rfl,rfl,rfl,rfl,rfl⟩:=H
 go_enter Try.func74,Try.ntmps74
 go_wp2_with (first | ((with_reducible refine gate_dst (N:=1) rfl ?_);refine Up.bx 1 96 #[.int .i64 a0_0,.string a0_1,.int .i64 a0_2,.slice A0_3 l0_3.length c0_3,.slice A0_4 l0_4.length c0_4] ?_;intro gb313 hg w3 hbox hb;have n0_:=Up.BB HB hb;have n1_:=Aside0.mk (hbox);have n2_:=Up.gw hg HB;have n3_:=Up.gw hg HB;clear HB;have HB:=n0_;have BK313:=n1_;have GW313:=n2_;have GE313:=n3_;clear n0_ n1_ n2_ n3_ hb hbox hg) | ((with_reducible refine gate_dst (N:=2) rfl ?_);refine Up.bx 2 55 #[.int .i64 0,.string (⟨#[]⟩ : ByteArray),.int .i64 0,.slice none 0 0,.slice none 0 0] ?_;intro gb314 hg w4 hbox hb;have n0_:=Up.KB BK313 hb;have n1_:=Aside0.mk (below_step (Up.Bx HB) hb);have n2_:=Aside0.mk (hbox);have n3_:=Up.gw hg HB;have n4_:=Up.gw hg HB;have n5_:=Up.nl hg BK313;have n6_:=Up.ng hg BK313;clear BK313 HB;have BK313:=n0_;have HB:=n1_;have BK314:=n2_;have GW314:=n3_;have GE314:=n4_;have NB313_314:=n5_;have NB314_313:=n6_;clear n0_ n1_ n2_ n3_ n4_ n5_ n6_ hb hbox hg) | ((with_reducible refine gate_dst (N:=3) rfl ?_);refine Up.bx 3 55 #[.int .i64 0,.string (⟨#[]⟩ : ByteArray),.int .i64 0,.slice none 0 0,.slice none 0 0] ?_;intro gb315 hg w5 hbox hb;have n0_:=Up.KB BK313 hb;have n1_:=Up.KB BK314 hb;have n2_:=Aside0.mk (below_step (Up.Bx HB) hb);have n3_:=Aside0.mk (hbox);have n4_:=Up.gw hg HB;have n5_:=Up.gw hg HB;have n6_:=Up.nl hg BK313;have n7_:=Up.ng hg BK313;have n8_:=Up.nl hg BK314;have n9_:=Up.ng hg BK314;clear BK313 BK314 HB;have BK313:=n0_;have BK314:=n1_;have HB:=n2_;have BK315:=n3_;have GW315:=n4_;have GE315:=n5_;have NB313_315:=n6_;have NB315_313:=n7_;have NB314_315:=n8_;have NB315_314:=n9_;clear n0_ n1_ n2_ n3_ n4_ n5_ n6_ n7_ n8_ n9_ hb hbox hg;have hnb6:=NB313_314.out;have hnc6:=NB314_313.out;have hnb7:=NB313_315.out;have hnc7:=NB315_313.out;have hcz8_0:=Up.c0 BK313;have hcz8_1:=Up.c1 BK313;have hcz8_2:=Up.c2 BK313;have hcz8_3:=Up.c3 BK313;have hcz8_4:=Up.c4 BK313;have hfz8_0:=blk_frozen BK313.out 0;have hfz8_1:=blk_frozen BK313.out 1;have hfz8_2:=blk_frozen BK313.out 2;have hfz8_3:=blk_frozen BK313.out 3;have hfz8_4:=blk_frozen BK313.out 4;have hnb9:=NB315_314.out;have hnc9:=NB314_315.out;have hcz10_0:=Up.c0 BK315;have hcz10_1:=Up.c1 BK315;have hcz10_2:=Up.c2 BK315;have hcz10_3:=Up.c3 BK315;have hcz10_4:=Up.c4 BK315;have hfz10_0:=blk_frozen BK315.out 0;have hfz10_1:=blk_frozen BK315.out 1;have hfz10_2:=blk_frozen BK315.out 2;have hfz10_3:=blk_frozen BK315.out 3;have hfz10_4:=blk_frozen BK315.out 4) | ((with_reducible refine gate_callee (f:=22) rfl ?_);refine Up.gl (some 9) Try.func22 #[.agg #[.string a0_1,.int .i64 a0_2,.slice A0_3 l0_3.length c0_3,.slice A0_4 l0_4.length c0_4]] ?_;(with_reducible refine (laws_toValue.calls k a0_1 a0_2 _ _ l0_3 _ _ l0_4 t316 t317 t318 t321 _ ?side1 ?side2 ?side3 ?side4 A2.out).mono ?_);(case side1 => exact Kd.C_below HR0_3.out (Up.Bx HB));(case side2 => exact HC0_3.out);(case side3 => exact Kd.C_below HR0_4.out (Up.Bx HB));(case side4 => exact HC0_4.out);rintro e w11 ⟨v319,v322,rfl,ho0,ho1,hb⟩;refine ⟨_,rfl,?_⟩;have n0_:=Aside0.mk (Kd.R_lower ho0 (below_size (Up.Bx HB)));have n1_:=Aside0.mk (Kd.R_lower ho1 (below_size (Up.Bx HB)));have n2_:=Aside0.mk (blk_below (g:=gb313) (o:=.cells #[.int .i64 a0_0,.string a0_1,.int .i64 a0_2,.slice A0_3 l0_3.length c0_3,.slice A0_4 l0_4.length c0_4] 96 (0,0)) (Up.Kx BK313) hb);have n3_:=Aside0.mk (blk_below (g:=gb314) (o:=.cells #[.int .i64 0,.string (⟨#[]⟩ : ByteArray),.int .i64 0,.slice none 0 0,.slice none 0 0] 55 (0,0)) (Up.Kx BK314) hb);have n4_:=Aside0.mk (blk_below (g:=gb315) (o:=.cells #[.int .i64 a0_0,.string (⟨#[]⟩ : ByteArray),.int .i64 0,.slice none 0 0,.slice none 0 0] 55 (0,0)) (Up.Kx BK315) hb);have n5_:=Aside0.mk (below_step (Up.Bx HB) hb);clear BK313 BK314 BK315 HB;have HO320:=n0_;have HO323:=n1_;have BK313:=n2_;have BK314:=n3_;have BK315:=n4_;have HB:=n5_;clear n0_ n1_ n2_ n3_ n4_ n5_;(try clear hb);(try clear hb2);(try clear hk);(try clear hi);(try clear ho0);(try clear ho1);have hcz12_0:=Up.c0 BK315;have hcz12_1:=Up.c1 BK315;have hcz12_2:=Up.c2 BK315;have hcz12_3:=Up.c3 BK315;have hcz12_4:=Up.c4 BK315;have hfz12_0:=blk_frozen BK315.out 0;have hfz12_1:=blk_frozen BK315.out 1;have hfz12_2:=blk_frozen BK315.out 2;have hfz12_3:=blk_frozen BK315.out 3;have hfz12_4:=blk_frozen BK315.out 4;obtain ⟨Ao13,co13,eo13⟩:=Kd.R_slice HO320.out;subst eo13;obtain ⟨Ao14,co14,eo14⟩:=Kd.R_slice HO323.out;subst eo14;have hcz15_0:=Up.c0 BK314;have hcz15_1:=Up.c1 BK314;have hcz15_2:=Up.c2 BK314;have hcz15_3:=Up.c3 BK314;have hcz15_4:=Up.c4 BK314;have hfz15_0:=blk_frozen BK314.out 0;have hfz15_1:=blk_frozen BK314.out 1;have hfz15_2:=blk_frozen BK314.out 2;have hfz15_3:=blk_frozen BK314.out 3;have hfz15_4:=blk_frozen BK314.out 4))
 refine bodyPost_ret (results_cell_row rfl _ _ gb314 55 #[.int .i64 a0_0,.string t316,.int .i64 t317,.slice Ao13 t318.length co13,.slice Ao14 t321.length co14] (0,0) _ rfl (Up.Kx BK314) Try.underlying55 rfl (by kernel_rfl)) rfl ?_
 exact ⟨_,_,by first | rfl | (simp [errW_none,errW_some] <;> rfl) | (simp [*,errW_none,errW_some] <;> rfl),by (with_reducible repeat (first | apply Kd.R_alloc | apply Kd.R_drewN | apply Kd.R_drew));exact Kd.R_mono (Kd.R_far (p:=⟨gb314,4,none⟩) (Kd.R_far (p:=⟨gb314,3,none⟩) (Kd.R_far (p:=⟨gb314,2,none⟩) (Kd.R_far (p:=⟨gb314,1,none⟩) (Kd.R_far (p:=⟨gb314,0,none⟩) (Kd.R_far (p:=⟨gb315,4,none⟩) (Kd.R_far (p:=⟨gb315,3,none⟩) (Kd.R_far (p:=⟨gb315,2,none⟩) (Kd.R_far (p:=⟨gb315,1,none⟩) (Kd.R_types (Kd.R_types HO320.out BK315.out (by decide)) BK314.out (by decide)) (fun _ hk => hk.1.2) (.string t316)) (fun _ hk => hk.1.2) (.int .i64 t317)) (fun _ hk => hk.1.2) (.slice Ao13 t318.length co13)) (fun _ hk => hk.1.2) (.slice Ao14 t321.length co14)) (fun _ hk => hk.2) (.int .i64 a0_0)) (fun _ hk => hk.2) (.string t316)) (fun _ hk => hk.2) (.int .i64 t317)) (fun _ hk => hk.2) (.slice Ao13 t318.length co13)) (fun _ hk => hk.2) (.slice Ao14 t321.length co14)) (fun _ hk => hk.1.1),by (with_reducible repeat (first | apply Kd.R_alloc | apply Kd.R_drewN | apply Kd.R_drew));exact Kd.R_mono (Kd.R_far (p:=⟨gb314,4,none⟩) (Kd.R_far (p:=⟨gb314,3,none⟩) (Kd.R_far (p:=⟨gb314,2,none⟩) (Kd.R_far (p:=⟨gb314,1,none⟩) (Kd.R_far (p:=⟨gb314,0,none⟩) (Kd.R_far (p:=⟨gb315,4,none⟩) (Kd.R_far (p:=⟨gb315,3,none⟩) (Kd.R_far (p:=⟨gb315,2,none⟩) (Kd.R_far (p:=⟨gb315,1,none⟩) (Kd.R_types (Kd.R_types HO323.out BK315.out (by decide)) BK314.out (by decide)) (fun _ hk => hk.1.2) (.string t316)) (fun _ hk => hk.1.2) (.int .i64 t317)) (fun _ hk => hk.1.2) (.slice Ao13 t318.length co13)) (fun _ hk => hk.1.2) (.slice Ao14 t321.length co14)) (fun _ hk => hk.2) (.int .i64 a0_0)) (fun _ hk => hk.2) (.string t316)) (fun _ hk => hk.2) (.int .i64 t317)) (fun _ hk => hk.2) (.slice Ao13 t318.length co13)) (fun _ hk => hk.2) (.slice Ao14 t321.length co14)) (fun _ hk => trivial),Up.Bx HB⟩

end Go.Proofs.Ytdgmlakgnbmbbaa.OFnExactVaultsOk
