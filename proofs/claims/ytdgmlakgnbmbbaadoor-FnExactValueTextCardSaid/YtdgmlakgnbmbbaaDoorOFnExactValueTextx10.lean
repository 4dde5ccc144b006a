-- Laid by a program of this session (wip/myprint.py): the kit's print of the functions, contracts of our own among them.
import Derived.Test.YtdgmlakgnbmbbaaDoorOFnExactValueTextx0
import Derived.Test.YtdgmlakgnbmbbaaDoorOFnExactValueTextx9
namespace Go.Proofs.YtdgmlakgnbmbbaaDoor.OFnExactValueText
open Go.RowKit Go.Proofs.YtdgmlakgnbmbbaaDoorW.PrintWords Go.Proofs.YtdgmlakgnbmbbaaDoorW.PrintLast Go.Proofs.YtdgmlakgnbmbbaaDoorW.PrintMore
attribute [local go_sem] max2_int min2_int max_two min_two max_three min_three max_four min_four   -- for this text's walks alone
set_option linter.unusedVariables false
set_option linter.unusedSimpArgs false

/-! ### laws_szRecord: function 65 -/
def laws_szRecord.f (k : Nat) (a0_0 : Int) (l0_1 : List ByteArray) (a1 : Int) : Option (Int):=(laws_szStringS.f k l0_1 a1).bind fun t247 => (if t247 < 0 then (some (-1)) else (some t247))
theorem laws_szRecord.mono : ∀ a0 a1 a2 k,LeO (laws_szRecord.f k a0 a1 a2) (laws_szRecord.f (k + 1) a0 a1 a2):=by
 intro a0 a1 a2 k
 unfold laws_szRecord.f
 repeat' first
   | (with_reducible exact laws_szStringS.mono _ _ _)
   | (with_reducible exact LeO.refl _)
   | (with_reducible exact LeO.none _)
   | (with_reducible refine LeO.ite ?_ ?_)
   | (with_reducible refine LeO.bind ?_ (fun _ => ?_))
   | exact laws_szStringS.mono _ _ _
   | exact LeO.none _
   | refine LeO.ite ?_ ?_
   | refine LeO.bind ?_ (fun _ => ?_)
set_option maxHeartbeats 8000000 in
set_option maxRecDepth 100000 in
theorem laws_szRecord.calls (k : Nat) (a0_0 : Int) (A0_1 : Option Addr) (c0_1 : Nat) (l0_1 : List ByteArray) (a1 : Int) (r : Int) (w : World) (hr0_1 : Kd.C Kd.string w A0_1 l0_1.length l0_1) (hc0_1 : l0_1.length ≤ c0_1) (h : laws_szRecord.f k a0_0 l0_1 a1 = some r) :
  Calls Tryd.prog 65 #[.agg #[.int .i64 a0_0,.slice A0_1 l0_1.length c0_1],.int .i64 a1] w fun e w' => e = .returned (.int .i64 r) ∧ Below w.heap.size w w':=by
 have hu99:=Tryd.underlying99
 have HR0_1:=Aside0.mk hr0_1
 have HC0_1:=Aside0.mk hc0_1
 clear hr0_1 hc0_1
 have HB:=Aside0.mk (Below.refl w.heap.size w)
 have H : ((laws_szStringS.f k l0_1 a1).bind fun t247 => (if t247 < 0 then (some (-1)) else (some t247))) = some r:=h
 clear h
 replace H:=Option.bind_eq_some_iff.mp H
 obtain ⟨t247,A30,H⟩:=H
 replace H : (if t247 < 0 then (some (-1)) else (some t247)) = some r:=H
 have A3:=Aside0.mk A30
 clear A30
 by_cases c4 : t247 < 0
 ·rw [if_pos c4] at H
  have c4b0 : decide (t247 < 0) = true:=decide_eq_true c4
  clear c4
  obtain rfl:=Option.some.inj H
  go_enter Tryd.func65,Tryd.ntmps65
  go_wp2_with (first | ((with_reducible refine gate_dst (N:=2) rfl ?_);refine Up.bx 2 99 #[.int .i64 a0_0,.slice A0_1 l0_1.length c0_1] ?_;intro gb246 hg w5 hbox hb;have n0_:=Up.BB HB hb;have n1_:=Aside0.mk (hbox);have n2_:=Up.gw hg HB;have n3_:=Up.gw hg HB;clear HB;have HB:=n0_;have BK246:=n1_;have GW246:=n2_;have GE246:=n3_;clear n0_ n1_ n2_ n3_ hb hbox hg;have hcz6_0:=Up.c0 BK246;have hcz6_1:=Up.c1 BK246;have hfz6_0:=blk_frozen BK246.out 0;have hfz6_1:=blk_frozen BK246.out 1) | ((with_reducible refine gate_callee (f:=79) rfl ?_);refine Up.gl (some 8) Tryd.func79 #[.slice A0_1 l0_1.length c0_1,.int .i64 a1] ?_;(with_reducible refine (laws_szStringS.calls k _ _ l0_1 a1 t247 _ ?side1 ?side2 A3.out).mono ?_);(case side1 => exact Up.Cx HR0_1 HB);(case side2 => exact HC0_1.out);rintro e w' ⟨rfl,⟨nd,rfl⟩⟩;refine ⟨_,rfl,?_⟩))
  go_ret
  exact Up.e1 (Up.Bx HB)
 ·rw [if_neg c4] at H
  have c4b0 : decide (t247 < 0) = false:=decide_eq_false c4
  clear c4
  obtain rfl:=Option.some.inj H
  go_enter Tryd.func65,Tryd.ntmps65
  go_wp2_with (first | ((with_reducible refine gate_dst (N:=2) rfl ?_);refine Up.bx 2 99 #[.int .i64 a0_0,.slice A0_1 l0_1.length c0_1] ?_;intro gb246 hg w7 hbox hb;have n0_:=Up.BB HB hb;have n1_:=Aside0.mk (hbox);have n2_:=Up.gw hg HB;have n3_:=Up.gw hg HB;clear HB;have HB:=n0_;have BK246:=n1_;have GW246:=n2_;have GE246:=n3_;clear n0_ n1_ n2_ n3_ hb hbox hg;have hcz8_0:=Up.c0 BK246;have hcz8_1:=Up.c1 BK246;have hfz8_0:=blk_frozen BK246.out 0;have hfz8_1:=blk_frozen BK246.out 1) | ((with_reducible refine gate_callee (f:=79) rfl ?_);refine Up.gl (some 8) Tryd.func79 #[.slice A0_1 l0_1.length c0_1,.int .i64 a1] ?_;(with_reducible refine (laws_szStringS.calls k _ _ l0_1 a1 t247 _ ?side1 ?side2 A3.out).mono ?_);(case side1 => exact Up.Cx HR0_1 HB);(case side2 => exact HC0_1.out);rintro e w' ⟨rfl,⟨nd,rfl⟩⟩;refine ⟨_,rfl,?_⟩))
  go_ret
  exact Up.e1 (Up.Bx HB)

/-! ### laws_szRecordS: function 37 -/
def laws_szRecordS.l0 : Nat → List (S99) → Int → Int → Option (Int)
 | 0,_,_,_ => none
 | k + 1,x0,x1,x5 => if x5 < (x0.length : Int) then (if 0 ≤ x5 then ((laws_szRecord.f k ((rd_T99 x0 x5).f0) ((rd_T99 x0 x5).f1) x1).bind fun t249 => (if t249 < 0 then (some (-1)) else (laws_szRecordS.l0 k x0 t249 (wrap64 (x5 + 1))))) else (none)) else (some x1)
def laws_szRecordS.f (k : Nat) (l0 : List (S99)) (a1 : Int) : Option (Int):=if (wrap64 (a1 - (l0.length : Int))) < 0 then (some (-1)) else (laws_szRecordS.l0 k l0 (wrap64 (a1 - (l0.length : Int))) 0)
theorem laws_szRecordS.mono_l : ∀ k,(∀ y0 y1 y2,LeO (laws_szRecordS.l0 k y0 y1 y2) (laws_szRecordS.l0 (k + 1) y0 y1 y2))
 | 0 => fun _ _ _ r h => by simp [laws_szRecordS.l0] at h
 | k + 1 => by
  have ih0:=laws_szRecordS.mono_l k
  ·intro y0 y1 y2
   unfold laws_szRecordS.l0
   repeat' first
   | (with_reducible exact ih0 _ _ _)
   | (with_reducible exact laws_szRecord.mono _ _ _ _)
   | (with_reducible exact LeO.refl _)
   | (with_reducible exact LeO.none _)
   | (with_reducible refine LeO.ite ?_ ?_)
   | (with_reducible refine LeO.bind ?_ (fun _ => ?_))
   | exact ih0 _ _ _
   | exact laws_szRecord.mono _ _ _ _
   | exact LeO.none _
   | refine LeO.ite ?_ ?_
   | refine LeO.bind ?_ (fun _ => ?_)
theorem laws_szRecordS.mono : ∀ a0 a1 k,LeO (laws_szRecordS.f k a0 a1) (laws_szRecordS.f (k + 1) a0 a1):=by
 intro a0 a1 k
 have ih0:=laws_szRecordS.mono_l k
 unfold laws_szRecordS.f
 repeat' first
   | (with_reducible exact ih0 _ _ _)
   | (with_reducible exact laws_szRecord.mono _ _ _ _)
   | (with_reducible exact LeO.refl _)
   | (with_reducible exact LeO.none _)
   | (with_reducible refine LeO.ite ?_ ?_)
   | (with_reducible refine LeO.bind ?_ (fun _ => ?_))
   | exact ih0 _ _ _
   | exact laws_szRecord.mono _ _ _ _
   | exact LeO.none _
   | refine LeO.ite ?_ ?_
   | refine LeO.bind ?_ (fun _ => ?_)
set_option maxHeartbeats 8000000 in
set_option maxRecDepth 100000 in
theorem laws_szRecordS.calls (k : Nat) (A0 : Option Addr) (c0 : Nat) (l0 : List (S99)) (a1 : Int) (r : Int) (w : World) (hr0 : Kd.C k99 w A0 l0.length l0) (hc0 : l0.length ≤ c0) (h : laws_szRecordS.f k l0 a1 = some r) :
  Calls Tryd.prog 37 #[.slice A0 l0.length c0,.int .i64 a1] w fun e w' => e = .returned (.int .i64 r) ∧ Below w.heap.size w w':=by
 have hu99:=Tryd.underlying99
 have HR0:=Aside0.mk hr0
 have HC0:=Aside0.mk hc0
 clear hr0 hc0
 have HB:=Aside0.mk (Below.refl w.heap.size w)
 have H : (if (wrap64 (a1 - (l0.length : Int))) < 0 then (some (-1)) else (laws_szRecordS.l0 k l0 (wrap64 (a1 - (l0.length : Int))) 0)) = some r:=h
 clear h
 by_cases c3 : (wrap64 (a1 - (l0.length : Int))) < 0
 ·rw [if_pos c3] at H
  have c3b0 : decide ((wrap64 (a1 - (l0.length : Int))) < 0) = true:=decide_eq_true c3
  clear c3
  obtain rfl:=Option.some.inj H
  go_enter Tryd.func37,Tryd.ntmps37
  go_wp2
  go_ret
  exact Up.e1 (Up.Bup HB)
 ·rw [if_neg c3] at H
  have c3b0 : decide ((wrap64 (a1 - (l0.length : Int))) < 0) = false:=decide_eq_false c3
  clear c3
  have H':=Aside0.mk H
  clear H
  go_enter Tryd.func37,Tryd.ntmps37
  go_wp2
  go_loopg [1,5] k (fun kq v1 v5 w' => ∃ (x1_1 : Int) (x5_1 : Int),v1 = .int .i64 x1_1 ∧ v5 = .int .i64 x5_1 ∧ Aside0 (laws_szRecordS.l0 kq l0 x1_1 x5_1 = some r) ∧ Aside0 (kq ≤ k) ∧ Aside0 (Below w.heap.size w w'))
  case atStart => exact ⟨(wrap64 (a1 - (l0.length : Int))),(0),(by first | rfl | (simp;done) | (simp [*];done)),(by first | rfl | (simp;done) | (simp [*];done)),H',⟨Nat.le_refl _⟩,⟨Up.Bup HB⟩⟩
  case round =>
   clear H'
   try clear p2
   try clear c3
   try clear c3b0
   obtain ⟨x1_1,x5_1,rfl,rfl,HA,HK1,HB⟩:=hrel
   cases gk with
   | zero => exact absurd HA.out (by simp [laws_szRecordS.l0])
   | succ k1 =>
    have H:=HA.out
    clear HA
    simp only [laws_szRecordS.l0] at H
    by_cases c4 : x5_1 < (l0.length : Int)
    ·rw [if_pos c4] at H
     have c4b0 : decide (x5_1 < (l0.length : Int)) = true:=decide_eq_true c4
     clear c4
     by_cases c5 : 0 ≤ x5_1
     ·rw [if_pos c5] at H
      have c5b0 : decide (0 ≤ x5_1) = true:=decide_eq_true c5
      clear c5
      replace H:=Option.bind_eq_some_iff.mp H
      obtain ⟨t249,A60,H⟩:=H
      replace H : (if t249 < 0 then (some (-1)) else (laws_szRecordS.l0 k1 l0 t249 (wrap64 (x5_1 + 1)))) = some r:=H
      have A6:=Aside0.mk A60
      clear A60
      by_cases c7 : t249 < 0
      ·rw [if_pos c7] at H
       have c7b0 : decide (t249 < 0) = true:=decide_eq_true c7
       clear c7
       obtain rfl:=Option.some.inj H
       have p248 : 0 ≤ (x5_1 : Int):=Up.od
       have q248 : x5_1 < (l0.length : Int):=Up.od
       obtain ⟨ad248,A248_1,c248_1,e248,hx248_0,hx248_1,hl248_1,hi248_1⟩:=at_T99 HR0.out x5_1 p248 q248
       cases e248
       replace hx248_0:=Up.hc HB hx248_0
       replace hx248_1:=Up.hc HB hx248_1
       have HR248_1:=Aside0.mk hi248_1
       have HC248_1:=Aside0.mk hl248_1
       clear hi248_1 hl248_1
       replace p248:=eq_true p248
       replace q248:=eq_true q248
       go_wp2_with (first | ((with_reducible refine gate_callee (f:=65) rfl ?_);refine Up.gl (some 23) Tryd.func65 #[.agg #[.int .i64 ((rd_T99 l0 x5_1).f0),.slice A248_1 ((rd_T99 l0 x5_1).f1).length c248_1],.int .i64 x1_1] ?_;(with_reducible refine (laws_szRecord.calls k1 ((rd_T99 l0 x5_1).f0) _ _ ((rd_T99 l0 x5_1).f1) x1_1 t249 _ ?side1 ?side2 A6.out).mono ?_);(case side1 => exact Up.Cx HR248_1 HB);(case side2 => exact HC248_1.out);rintro e w8 ⟨rfl,hb⟩;refine ⟨_,rfl,?_⟩;have n0_:=Up.BB HB hb;clear HB;have HB:=n0_;clear n0_;(try clear hb);(try clear hb2);(try clear hk);(try clear hi)))
       go_ret
       exact Up.e1 (Up.Bup HB)
      ·rw [if_neg c7] at H
       have c7b0 : decide (t249 < 0) = false:=decide_eq_false c7
       clear c7
       have H':=Aside0.mk H
       clear H
       have p248 : 0 ≤ (x5_1 : Int):=Up.od
       have q248 : x5_1 < (l0.length : Int):=Up.od
       obtain ⟨ad248,A248_1,c248_1,e248,hx248_0,hx248_1,hl248_1,hi248_1⟩:=at_T99 HR0.out x5_1 p248 q248
       cases e248
       replace hx248_0:=Up.hc HB hx248_0
       replace hx248_1:=Up.hc HB hx248_1
       have HR248_1:=Aside0.mk hi248_1
       have HC248_1:=Aside0.mk hl248_1
       clear hi248_1 hl248_1
       replace p248:=eq_true p248
       replace q248:=eq_true q248
       go_wp2_with (first | ((with_reducible refine gate_callee (f:=65) rfl ?_);refine Up.gl (some 23) Tryd.func65 #[.agg #[.int .i64 ((rd_T99 l0 x5_1).f0),.slice A248_1 ((rd_T99 l0 x5_1).f1).length c248_1],.int .i64 x1_1] ?_;(with_reducible refine (laws_szRecord.calls k1 ((rd_T99 l0 x5_1).f0) _ _ ((rd_T99 l0 x5_1).f1) x1_1 t249 _ ?side1 ?side2 A6.out).mono ?_);(case side1 => exact Up.Cx HR248_1 HB);(case side2 => exact HC248_1.out);rintro e w9 ⟨rfl,hb⟩;refine ⟨_,rfl,?_⟩;have n0_:=Up.BB HB hb;clear HB;have HB:=n0_;clear n0_;(try clear hb);(try clear hb2);(try clear hk);(try clear hi)))
       go_roundg k1
       case measure => have:=HK1.out;omega
       case rel => exact ⟨(t249),(wrap64 (x5_1 + 1)),(by first | rfl | (simp;done) | (simp [*];done)),(by first | rfl | (simp;done) | (simp [*];done)),H',⟨by have:=HK1.out;omega⟩,⟨Up.Bup HB⟩⟩
     ·rw [if_neg c5] at H
      exact absurd H (by simp)
    ·rw [if_neg c4] at H
     have c4b0 : decide (x5_1 < (l0.length : Int)) = false:=decide_eq_false c4
     clear c4
     obtain rfl:=Option.some.inj H
     go_wp2
     go_ret
     exact Up.e1 (Up.Bup HB)

/-! ### laws_szRecordSS: function 15 -/
def laws_szRecordSS.l0 : Nat → List (List (S99)) → Int → Int → Option (Int)
 | 0,_,_,_ => none
 | k + 1,x0,x1,x5 => if x5 < (x0.length : Int) then (if 0 ≤ x5 then ((laws_szRecordS.f k (rd_L9 x0 x5) x1).bind fun t251 => (if t251 < 0 then (some (-1)) else (laws_szRecordSS.l0 k x0 t251 (wrap64 (x5 + 1))))) else (none)) else (some x1)
def laws_szRecordSS.f (k : Nat) (l0 : List (List (S99))) (a1 : Int) : Option (Int):=if (wrap64 (a1 - (l0.length : Int))) < 0 then (some (-1)) else (laws_szRecordSS.l0 k l0 (wrap64 (a1 - (l0.length : Int))) 0)
theorem laws_szRecordSS.mono_l : ∀ k,(∀ y0 y1 y2,LeO (laws_szRecordSS.l0 k y0 y1 y2) (laws_szRecordSS.l0 (k + 1) y0 y1 y2))
 | 0 => fun _ _ _ r h => by simp [laws_szRecordSS.l0] at h
 | k + 1 => by
  have ih0:=laws_szRecordSS.mono_l k
  ·intro y0 y1 y2
   unfold laws_szRecordSS.l0
   repeat' first
   | (with_reducible exact ih0 _ _ _)
   | (with_reducible exact laws_szRecordS.mono _ _ _)
   | (with_reducible exact LeO.refl _)
   | (with_reducible exact LeO.none _)
   | (with_reducible refine LeO.ite ?_ ?_)
   | (with_reducible refine LeO.bind ?_ (fun _ => ?_))
   | exact ih0 _ _ _
   | exact laws_szRecordS.mono _ _ _
   | exact LeO.none _
   | refine LeO.ite ?_ ?_
   | refine LeO.bind ?_ (fun _ => ?_)
theorem laws_szRecordSS.mono : ∀ a0 a1 k,LeO (laws_szRecordSS.f k a0 a1) (laws_szRecordSS.f (k + 1) a0 a1):=by
 intro a0 a1 k
 have ih0:=laws_szRecordSS.mono_l k
 unfold laws_szRecordSS.f
 repeat' first
   | (with_reducible exact ih0 _ _ _)
   | (with_reducible exact laws_szRecordS.mono _ _ _)
   | (with_reducible exact LeO.refl _)
   | (with_reducible exact LeO.none _)
   | (with_reducible refine LeO.ite ?_ ?_)
   | (with_reducible refine LeO.bind ?_ (fun _ => ?_))
   | exact ih0 _ _ _
   | exact laws_szRecordS.mono _ _ _
   | exact LeO.none _
   | refine LeO.ite ?_ ?_
   | refine LeO.bind ?_ (fun _ => ?_)
set_option maxHeartbeats 8000000 in
set_option maxRecDepth 100000 in
theorem laws_szRecordSS.calls (k : Nat) (A0 : Option Addr) (c0 : Nat) (l0 : List (List (S99))) (a1 : Int) (r : Int) (w : World) (hr0 : Kd.C (Kd.slice 99 k99) w A0 l0.length l0) (hc0 : l0.length ≤ c0) (h : laws_szRecordSS.f k l0 a1 = some r) :
  Calls Tryd.prog 15 #[.slice A0 l0.length c0,.int .i64 a1] w fun e w' => e = .returned (.int .i64 r) ∧ Below w.heap.size w w':=by
 have HR0:=Aside0.mk hr0
 have HC0:=Aside0.mk hc0
 clear hr0 hc0
 have HB:=Aside0.mk (Below.refl w.heap.size w)
 have H : (if (wrap64 (a1 - (l0.length : Int))) < 0 then (some (-1)) else (laws_szRecordSS.l0 k l0 (wrap64 (a1 - (l0.length : Int))) 0)) = some r:=h
 clear h
 by_cases c3 : (wrap64 (a1 - (l0.length : Int))) < 0
 ·rw [if_pos c3] at H
  have c3b0 : decide ((wrap64 (a1 - (l0.length : Int))) < 0) = true:=decide_eq_true c3
  clear c3
  obtain rfl:=Option.some.inj H
  go_enter Tryd.func15,Tryd.ntmps15
  go_wp2
  go_ret
  exact Up.e1 (Up.Bup HB)
 ·rw [if_neg c3] at H
  have c3b0 : decide ((wrap64 (a1 - (l0.length : Int))) < 0) = false:=decide_eq_false c3
  clear c3
  have H':=Aside0.mk H
  clear H
  go_enter Tryd.func15,Tryd.ntmps15
  go_wp2
  go_loopg [1,5] k (fun kq v1 v5 w' => ∃ (x1_1 : Int) (x5_1 : Int),v1 = .int .i64 x1_1 ∧ v5 = .int .i64 x5_1 ∧ Aside0 (laws_szRecordSS.l0 kq l0 x1_1 x5_1 = some r) ∧ Aside0 (kq ≤ k) ∧ Aside0 (Below w.heap.size w w'))
  case atStart => exact ⟨(wrap64 (a1 - (l0.length : Int))),(0),(by first | rfl | (simp;done) | (simp [*];done)),(by first | rfl | (simp;done) | (simp [*];done)),H',⟨Nat.le_refl _⟩,⟨Up.Bup HB⟩⟩
  case round =>
   clear H'
   try clear c1
   try clear p2
   try clear c3
   try clear c3b0
   obtain ⟨x1_1,x5_1,rfl,rfl,HA,HK1,HB⟩:=hrel
   cases gk with
   | zero => exact absurd HA.out (by simp [laws_szRecordSS.l0])
   | succ k1 =>
    have H:=HA.out
    clear HA
    simp only [laws_szRecordSS.l0] at H
    by_cases c4 : x5_1 < (l0.length : Int)
    ·rw [if_pos c4] at H
     have c4b0 : decide (x5_1 < (l0.length : Int)) = true:=decide_eq_true c4
     clear c4
     by_cases c5 : 0 ≤ x5_1
     ·rw [if_pos c5] at H
      have c5b0 : decide (0 ≤ x5_1) = true:=decide_eq_true c5
      clear c5
      replace H:=Option.bind_eq_some_iff.mp H
      obtain ⟨t251,A60,H⟩:=H
      replace H : (if t251 < 0 then (some (-1)) else (laws_szRecordSS.l0 k1 l0 t251 (wrap64 (x5_1 + 1)))) = some r:=H
      have A6:=Aside0.mk A60
      clear A60
      by_cases c7 : t251 < 0
      ·rw [if_pos c7] at H
       have c7b0 : decide (t251 < 0) = true:=decide_eq_true c7
       clear c7
       obtain rfl:=Option.some.inj H
       have p250 : 0 ≤ (x5_1 : Int):=Up.od
       have q250 : x5_1 < (l0.length : Int):=Up.od
       obtain ⟨ad250,A250_0,c250_0,e250,hx250_0,hl250_0,hi250_0⟩:=at_L9 HR0.out x5_1 p250 q250
       cases e250
       replace hx250_0:=Up.hc HB hx250_0
       have HR250_0:=Aside0.mk hi250_0
       have HC250_0:=Aside0.mk hl250_0
       clear hi250_0 hl250_0
       replace p250:=eq_true p250
       replace q250:=eq_true q250
       go_wp2_with (first | ((with_reducible refine gate_callee (f:=37) rfl ?_);refine Up.gl (some 23) Tryd.func37 #[.slice A250_0 (rd_L9 l0 x5_1).length c250_0,.int .i64 x1_1] ?_;(with_reducible refine (laws_szRecordS.calls k1 _ _ (rd_L9 l0 x5_1) x1_1 t251 _ ?side1 ?side2 A6.out).mono ?_);(case side1 => exact Up.Cx HR250_0 HB);(case side2 => exact HC250_0.out);rintro e w8 ⟨rfl,hb⟩;refine ⟨_,rfl,?_⟩;have n0_:=Up.BB HB hb;clear HB;have HB:=n0_;clear n0_;(try clear hb);(try clear hb2);(try clear hk);(try clear hi)))
       go_ret
       exact Up.e1 (Up.Bup HB)
      ·rw [if_neg c7] at H
       have c7b0 : decide (t251 < 0) = false:=decide_eq_false c7
       clear c7
       have H':=Aside0.mk H
       clear H
       have p250 : 0 ≤ (x5_1 : Int):=Up.od
       have q250 : x5_1 < (l0.length : Int):=Up.od
       obtain ⟨ad250,A250_0,c250_0,e250,hx250_0,hl250_0,hi250_0⟩:=at_L9 HR0.out x5_1 p250 q250
       cases e250
       replace hx250_0:=Up.hc HB hx250_0
       have HR250_0:=Aside0.mk hi250_0
       have HC250_0:=Aside0.mk hl250_0
       clear hi250_0 hl250_0
       replace p250:=eq_true p250
       replace q250:=eq_true q250
       go_wp2_with (first | ((with_reducible refine gate_callee (f:=37) rfl ?_);refine Up.gl (some 23) Tryd.func37 #[.slice A250_0 (rd_L9 l0 x5_1).length c250_0,.int .i64 x1_1] ?_;(with_reducible refine (laws_szRecordS.calls k1 _ _ (rd_L9 l0 x5_1) x1_1 t251 _ ?side1 ?side2 A6.out).mono ?_);(case side1 => exact Up.Cx HR250_0 HB);(case side2 => exact HC250_0.out);rintro e w9 ⟨rfl,hb⟩;refine ⟨_,rfl,?_⟩;have n0_:=Up.BB HB hb;clear HB;have HB:=n0_;clear n0_;(try clear hb);(try clear hb2);(try clear hk);(try clear hi)))
       go_roundg k1
       case measure => have:=HK1.out;omega
       case rel => exact ⟨(t251),(wrap64 (x5_1 + 1)),(by first | rfl | (simp;done) | (simp [*];done)),(by first | rfl | (simp;done) | (simp [*];done)),H',⟨by have:=HK1.out;omega⟩,⟨Up.Bup HB⟩⟩
     ·rw [if_neg c5] at H
      exact absurd H (by simp)
    ·rw [if_neg c4] at H
     have c4b0 : decide (x5_1 < (l0.length : Int)) = false:=decide_eq_false c4
     clear c4
     obtain rfl:=Option.some.inj H
     go_wp2
     go_ret
     exact Up.e1 (Up.Bup HB)

-- told with loop.example/heirlooms/laws.szValue

/-! ### laws_szIntS: function 39 -/
def laws_szIntS.f (l0 : List Int) (a1 : Int) : Option (Int):=if (wrap64 (a1 - (l0.length : Int))) < 0 then (some (-1)) else (some (wrap64 (a1 - (l0.length : Int))))
set_option maxHeartbeats 8000000 in
set_option maxRecDepth 100000 in
theorem laws_szIntS.calls (A0 : Option Addr) (c0 : Nat) (l0 : List Int) (a1 : Int) (r : Int) (w : World) (hr0 : Kd.C (Kd.int .i64) w A0 l0.length l0) (hc0 : l0.length ≤ c0) (h : laws_szIntS.f l0 a1 = some r) :
  Calls Tryd.prog 39 #[.slice A0 l0.length c0,.int .i64 a1] w fun e w' => e = .returned (.int .i64 r) ∧ Drawn0 w w':=by
 have HR0:=Aside0.mk hr0
 have HC0:=Aside0.mk hc0
 clear hr0 hc0
 have H : (if (wrap64 (a1 - (l0.length : Int))) < 0 then (some (-1)) else (some (wrap64 (a1 - (l0.length : Int))))) = some r:=h
 clear h
 by_cases c3 : (wrap64 (a1 - (l0.length : Int))) < 0
 ·rw [if_pos c3] at H
  have c3b0 : decide ((wrap64 (a1 - (l0.length : Int))) < 0) = true:=decide_eq_true c3
  clear c3
  obtain rfl:=Option.some.inj H
  go_enter Tryd.func39,Tryd.ntmps39
  go_wp2
  go_ret
  exact Up.e2
 ·rw [if_neg c3] at H
  have c3b0 : decide ((wrap64 (a1 - (l0.length : Int))) < 0) = false:=decide_eq_false c3
  clear c3
  obtain rfl:=Option.some.inj H
  go_enter Tryd.func39,Tryd.ntmps39
  go_wp2
  go_ret
  exact Up.e2

/-! ### laws_szValueS: function 38 -/
def laws_szValueS.l0 : Nat → List (S39) → Int → Int → Option (Int)
 | 0,_,_,_ => none
 | k + 1,x0,x1,x5 => if x5 < (x0.length : Int) then (if 0 ≤ x5 then (((fun (a0_0 : ByteArray) (a0_1 : Int) (l0_2 : List (S39)) (l0_3 : List Int) (a1 : Int) => if (wrap64 (a1 - (a0_0.size : Int))) < 0 then (some (-1)) else (((fun (l0 : List (S39)) (a1 : Int) => if (wrap64 (a1 - (l0.length : Int))) < 0 then (some (-1)) else (laws_szValueS.l0 k l0 (wrap64 (a1 - (l0.length : Int))) 0)) l0_2 (wrap64 (a1 - (a0_0.size : Int)))).bind fun t255 => (if t255 < 0 then (some (-1)) else ((laws_szIntS.f l0_3 t255).bind fun t256 => (if t256 < 0 then (some (-1)) else (some t256)))))) ((rd_T39 x0 x5).f0) ((rd_T39 x0 x5).f1) ((rd_T39 x0 x5).f2) ((rd_T39 x0 x5).f3) x1).bind fun t253 => (if t253 < 0 then (some (-1)) else (laws_szValueS.l0 k x0 t253 (wrap64 (x5 + 1))))) else (none)) else (some x1)
def laws_szValueS.f (k : Nat) (l0 : List (S39)) (a1 : Int) : Option (Int):=if (wrap64 (a1 - (l0.length : Int))) < 0 then (some (-1)) else (laws_szValueS.l0 k l0 (wrap64 (a1 - (l0.length : Int))) 0)
def laws_szValue.f (k : Nat) (a0_0 : ByteArray) (a0_1 : Int) (l0_2 : List (S39)) (l0_3 : List Int) (a1 : Int) : Option (Int):=if (wrap64 (a1 - (a0_0.size : Int))) < 0 then (some (-1)) else ((laws_szValueS.f k l0_2 (wrap64 (a1 - (a0_0.size : Int)))).bind fun t255 => (if t255 < 0 then (some (-1)) else ((laws_szIntS.f l0_3 t255).bind fun t256 => (if t256 < 0 then (some (-1)) else (some t256)))))
theorem laws_szValueS.l0_eq (k : Nat) (x0 : List (S39)) (x1 : Int) (x5 : Int) : laws_szValueS.l0 (k + 1) x0 x1 x5 = if x5 < (x0.length : Int) then (if 0 ≤ x5 then ((laws_szValue.f k ((rd_T39 x0 x5).f0) ((rd_T39 x0 x5).f1) ((rd_T39 x0 x5).f2) ((rd_T39 x0 x5).f3) x1).bind fun t253 => (if t253 < 0 then (some (-1)) else (laws_szValueS.l0 k x0 t253 (wrap64 (x5 + 1))))) else (none)) else (some x1):=rfl
theorem laws_szValueS.mono_l : ∀ k,(∀ y0 y1 y2,LeO (laws_szValueS.l0 k y0 y1 y2) (laws_szValueS.l0 (k + 1) y0 y1 y2))
 | 0 => fun _ _ _ r h => by simp [laws_szValueS.l0] at h
 | k + 1 => by
  have ih0:=laws_szValueS.mono_l k
  ·intro y0 y1 y2
   unfold laws_szValueS.l0
   dsimp only
   repeat' first
   | (with_reducible exact ih0 _ _ _)
   | (with_reducible exact LeO.refl _)
   | (with_reducible exact LeO.none _)
   | (with_reducible refine LeO.ite ?_ ?_)
   | (with_reducible refine LeO.bind ?_ (fun _ => ?_))
   | exact ih0 _ _ _
   | exact LeO.none _
   | refine LeO.ite ?_ ?_
   | refine LeO.bind ?_ (fun _ => ?_)
theorem laws_szValueS.mono : ∀ a0 a1 k,LeO (laws_szValueS.f k a0 a1) (laws_szValueS.f (k + 1) a0 a1):=by
 intro a0 a1 k
 have ih0:=laws_szValueS.mono_l k
 unfold laws_szValueS.f
 repeat' first
   | (with_reducible exact ih0 _ _ _)
   | (with_reducible exact LeO.refl _)
   | (with_reducible exact LeO.none _)
   | (with_reducible refine LeO.ite ?_ ?_)
   | (with_reducible refine LeO.bind ?_ (fun _ => ?_))
   | exact ih0 _ _ _
   | exact LeO.none _
   | refine LeO.ite ?_ ?_
   | refine LeO.bind ?_ (fun _ => ?_)
theorem laws_szValue.mono : ∀ a0 a1 a2 a3 a4 k,LeO (laws_szValue.f k a0 a1 a2 a3 a4) (laws_szValue.f (k + 1) a0 a1 a2 a3 a4):=by
 intro a0 a1 a2 a3 a4 k
 unfold laws_szValue.f
 repeat' first
   | (with_reducible exact laws_szValueS.mono _ _ _)
   | (with_reducible exact LeO.refl _)
   | (with_reducible exact LeO.none _)
   | (with_reducible refine LeO.ite ?_ ?_)
   | (with_reducible refine LeO.bind ?_ (fun _ => ?_))
   | exact laws_szValueS.mono _ _ _
   | exact LeO.none _
   | refine LeO.ite ?_ ?_
   | refine LeO.bind ?_ (fun _ => ?_)
/-! ### of laws_szValue: function 16 -/
set_option maxHeartbeats 8000000 in
set_option maxRecDepth 100000 in
theorem laws_szValue.calls_of (k : Nat) (hS_ : ∀ (A0 : Option Addr) (c0 : Nat) (l0 : List (S39)) (a1 : Int) (r : Int) (w : World) (hr0 : Kd.C k39 w A0 l0.length l0) (hc0 : l0.length ≤ c0) (h : laws_szValueS.f k l0 a1 = some r),Calls Tryd.prog 38 #[.slice A0 l0.length c0,.int .i64 a1] w fun e w' => e = .returned (.int .i64 r) ∧ Below w.heap.size w w') (a0_0 : ByteArray) (a0_1 : Int) (A0_2 : Option Addr) (c0_2 : Nat) (l0_2 : List (S39)) (A0_3 : Option Addr) (c0_3 : Nat) (l0_3 : List Int) (a1 : Int) (r : Int) (w : World) (hr0_2 : Kd.C k39 w A0_2 l0_2.length l0_2) (hc0_2 : l0_2.length ≤ c0_2) (hr0_3 : Kd.C (Kd.int .i64) w A0_3 l0_3.length l0_3) (hc0_3 : l0_3.length ≤ c0_3) (h : laws_szValue.f k a0_0 a0_1 l0_2 l0_3 a1 = some r) :
  Calls Tryd.prog 16 #[.agg #[.string a0_0,.int .i64 a0_1,.slice A0_2 l0_2.length c0_2,.slice A0_3 l0_3.length c0_3],.int .i64 a1] w fun e w' => e = .returned (.int .i64 r) ∧ Below w.heap.size w w':=by
 have hu39:=Tryd.underlying39
 have HR0_2:=Aside0.mk hr0_2
 have HC0_2:=Aside0.mk hc0_2
 clear hr0_2 hc0_2
 have HR0_3:=Aside0.mk hr0_3
 have HC0_3:=Aside0.mk hc0_3
 clear hr0_3 hc0_3
 have HB:=Aside0.mk (Below.refl w.heap.size w)
 have H : (if (wrap64 (a1 - (a0_0.size : Int))) < 0 then (some (-1)) else ((laws_szValueS.f k l0_2 (wrap64 (a1 - (a0_0.size : Int)))).bind fun t255 => (if t255 < 0 then (some (-1)) else ((laws_szIntS.f l0_3 t255).bind fun t256 => (if t256 < 0 then (some (-1)) else (some t256)))))) = some r:=h
 clear h
 by_cases c3 : (wrap64 (a1 - (a0_0.size : Int))) < 0
 ·rw [if_pos c3] at H
  have c3b0 : decide ((wrap64 (a1 - (a0_0.size : Int))) < 0) = true:=decide_eq_true c3
  clear c3
  obtain rfl:=Option.some.inj H
  go_enter Tryd.func16,Tryd.ntmps16
  go_wp2_with (first | ((with_reducible refine gate_dst (N:=2) rfl ?_);refine Up.bx 2 39 #[.string a0_0,.int .i64 a0_1,.slice A0_2 l0_2.length c0_2,.slice A0_3 l0_3.length c0_3] ?_;intro gb254 hg w4 hbox hb;have n0_:=Up.BB HB hb;have n1_:=Aside0.mk (hbox);have n2_:=Up.gw hg HB;have n3_:=Up.gw hg HB;clear HB;have HB:=n0_;have BK254:=n1_;have GW254:=n2_;have GE254:=n3_;clear n0_ n1_ n2_ n3_ hb hbox hg;have hcz5_0:=Up.c0 BK254;have hcz5_1:=Up.c1 BK254;have hcz5_2:=Up.c2 BK254;have hcz5_3:=Up.c3 BK254;have hfz5_0:=blk_frozen BK254.out 0;have hfz5_1:=blk_frozen BK254.out 1;have hfz5_2:=blk_frozen BK254.out 2;have hfz5_3:=blk_frozen BK254.out 3))
  go_ret
  exact Up.e1 (Up.Bx HB)
 ·rw [if_neg c3] at H
  have c3b0 : decide ((wrap64 (a1 - (a0_0.size : Int))) < 0) = false:=decide_eq_false c3
  clear c3
  replace H:=Option.bind_eq_some_iff.mp H
  obtain ⟨t255,A60,H⟩:=H
  replace H : (if t255 < 0 then (some (-1)) else ((laws_szIntS.f l0_3 t255).bind fun t256 => (if t256 < 0 then (some (-1)) else (some t256)))) = some r:=H
  have A6:=Aside0.mk A60
  clear A60
  by_cases c7 : t255 < 0
  ·rw [if_pos c7] at H
   have c7b0 : decide (t255 < 0) = true:=decide_eq_true c7
   clear c7
   obtain rfl:=Option.some.inj H
   go_enter Tryd.func16,Tryd.ntmps16
   go_wp2_with (first | ((with_reducible refine gate_dst (N:=2) rfl ?_);refine Up.bx 2 39 #[.string a0_0,.int .i64 a0_1,.slice A0_2 l0_2.length c0_2,.slice A0_3 l0_3.length c0_3] ?_;intro gb254 hg w8 hbox hb;have n0_:=Up.BB HB hb;have n1_:=Aside0.mk (hbox);have n2_:=Up.gw hg HB;have n3_:=Up.gw hg HB;clear HB;have HB:=n0_;have BK254:=n1_;have GW254:=n2_;have GE254:=n3_;clear n0_ n1_ n2_ n3_ hb hbox hg;have hcz9_0:=Up.c0 BK254;have hcz9_1:=Up.c1 BK254;have hcz9_2:=Up.c2 BK254;have hcz9_3:=Up.c3 BK254;have hfz9_0:=blk_frozen BK254.out 0;have hfz9_1:=blk_frozen BK254.out 1;have hfz9_2:=blk_frozen BK254.out 2;have hfz9_3:=blk_frozen BK254.out 3) | ((with_reducible refine gate_callee (f:=38) rfl ?_);refine Up.gl (some 15) Tryd.func38 #[.slice A0_2 l0_2.length c0_2,.int .i64 (wrap64 (a1 - (a0_0.size : Int)))] ?_;(with_reducible refine (hS_ _ _ l0_2 (wrap64 (a1 - (a0_0.size : Int))) t255 _ ?side1 ?side2 A6.out).mono ?_);(case side1 => exact Up.Cx HR0_2 HB);(case side2 => exact HC0_2.out);rintro e w10 ⟨rfl,hb⟩;refine ⟨_,rfl,?_⟩;have n0_:=Up.KB BK254 hb;have n1_:=Aside0.mk (below_step (Up.Bx HB) hb);clear BK254 HB;have BK254:=n0_;have HB:=n1_;clear n0_ n1_;(try clear hb);(try clear hb2);(try clear hk);(try clear hi)))
   go_ret
   exact Up.e1 (Up.Bx HB)
  ·rw [if_neg c7] at H
   have c7b0 : decide (t255 < 0) = false:=decide_eq_false c7
   clear c7
   replace H:=Option.bind_eq_some_iff.mp H
   obtain ⟨t256,A110,H⟩:=H
   replace H : (if t256 < 0 then (some (-1)) else (some t256)) = some r:=H
   have A11:=Aside0.mk A110
   clear A110
   by_cases c12 : t256 < 0
   ·rw [if_pos c12] at H
    have c12b0 : decide (t256 < 0) = true:=decide_eq_true c12
    clear c12
    obtain rfl:=Option.some.inj H
    go_enter Tryd.func16,Tryd.ntmps16
    go_wp2_with (first | ((with_reducible refine gate_dst (N:=2) rfl ?_);refine Up.bx 2 39 #[.string a0_0,.int .i64 a0_1,.slice A0_2 l0_2.length c0_2,.slice A0_3 l0_3.length c0_3] ?_;intro gb254 hg w13 hbox hb;have n0_:=Up.BB HB hb;have n1_:=Aside0.mk (hbox);have n2_:=Up.gw hg HB;have n3_:=Up.gw hg HB;clear HB;have HB:=n0_;have BK254:=n1_;have GW254:=n2_;have GE254:=n3_;clear n0_ n1_ n2_ n3_ hb hbox hg;have hcz14_0:=Up.c0 BK254;have hcz14_1:=Up.c1 BK254;have hcz14_2:=Up.c2 BK254;have hcz14_3:=Up.c3 BK254;have hfz14_0:=blk_frozen BK254.out 0;have hfz14_1:=blk_frozen BK254.out 1;have hfz14_2:=blk_frozen BK254.out 2;have hfz14_3:=blk_frozen BK254.out 3) | ((with_reducible refine gate_callee (f:=38) rfl ?_);refine Up.gl (some 15) Tryd.func38 #[.slice A0_2 l0_2.length c0_2,.int .i64 (wrap64 (a1 - (a0_0.size : Int)))] ?_;(with_reducible refine (hS_ _ _ l0_2 (wrap64 (a1 - (a0_0.size : Int))) t255 _ ?side1 ?side2 A6.out).mono ?_);(case side1 => exact Up.Cx HR0_2 HB);(case side2 => exact HC0_2.out);rintro e w15 ⟨rfl,hb⟩;refine ⟨_,rfl,?_⟩;have n0_:=Up.KB BK254 hb;have n1_:=Aside0.mk (below_step (Up.Bx HB) hb);clear BK254 HB;have BK254:=n0_;have HB:=n1_;clear n0_ n1_;(try clear hb);(try clear hb2);(try clear hk);(try clear hi);have hcz16_0:=Up.c0 BK254;have hcz16_1:=Up.c1 BK254;have hcz16_2:=Up.c2 BK254;have hcz16_3:=Up.c3 BK254;have hfz16_0:=blk_frozen BK254.out 0;have hfz16_1:=blk_frozen BK254.out 1;have hfz16_2:=blk_frozen BK254.out 2;have hfz16_3:=blk_frozen BK254.out 3) | ((with_reducible refine gate_callee (f:=39) rfl ?_);refine Up.gl (some 21) Tryd.func39 #[.slice A0_3 l0_3.length c0_3,.int .i64 t255] ?_;(with_reducible refine (laws_szIntS.calls _ _ l0_3 t255 t256 _ ?side1 ?side2 A11.out).mono ?_);(case side1 => exact Up.Cx HR0_3 HB);(case side2 => exact HC0_3.out);rintro e w' ⟨rfl,⟨nd,rfl⟩⟩;refine ⟨_,rfl,?_⟩))
    go_ret
    exact Up.e1 (Up.Bx HB)
   ·rw [if_neg c12] at H
    have c12b0 : decide (t256 < 0) = false:=decide_eq_false c12
    clear c12
    obtain rfl:=Option.some.inj H
    go_enter Tryd.func16,Tryd.ntmps16
    go_wp2_with (first | ((with_reducible refine gate_dst (N:=2) rfl ?_);refine Up.bx 2 39 #[.string a0_0,.int .i64 a0_1,.slice A0_2 l0_2.length c0_2,.slice A0_3 l0_3.length c0_3] ?_;intro gb254 hg w17 hbox hb;have n0_:=Up.BB HB hb;have n1_:=Aside0.mk (hbox);have n2_:=Up.gw hg HB;have n3_:=Up.gw hg HB;clear HB;have HB:=n0_;have BK254:=n1_;have GW254:=n2_;have GE254:=n3_;clear n0_ n1_ n2_ n3_ hb hbox hg;have hcz18_0:=Up.c0 BK254;have hcz18_1:=Up.c1 BK254;have hcz18_2:=Up.c2 BK254;have hcz18_3:=Up.c3 BK254;have hfz18_0:=blk_frozen BK254.out 0;have hfz18_1:=blk_frozen BK254.out 1;have hfz18_2:=blk_frozen BK254.out 2;have hfz18_3:=blk_frozen BK254.out 3) | ((with_reducible refine gate_callee (f:=38) rfl ?_);refine Up.gl (some 15) Tryd.func38 #[.slice A0_2 l0_2.length c0_2,.int .i64 (wrap64 (a1 - (a0_0.size : Int)))] ?_;(with_reducible refine (hS_ _ _ l0_2 (wrap64 (a1 - (a0_0.size : Int))) t255 _ ?side1 ?side2 A6.out).mono ?_);(case side1 => exact Up.Cx HR0_2 HB);(case side2 => exact HC0_2.out);rintro e w19 ⟨rfl,hb⟩;refine ⟨_,rfl,?_⟩;have n0_:=Up.KB BK254 hb;have n1_:=Aside0.mk (below_step (Up.Bx HB) hb);clear BK254 HB;have BK254:=n0_;have HB:=n1_;clear n0_ n1_;(try clear hb);(try clear hb2);(try clear hk);(try clear hi);have hcz20_0:=Up.c0 BK254;have hcz20_1:=Up.c1 BK254;have hcz20_2:=Up.c2 BK254;have hcz20_3:=Up.c3 BK254;have hfz20_0:=blk_frozen BK254.out 0;have hfz20_1:=blk_frozen BK254.out 1;have hfz20_2:=blk_frozen BK254.out 2;have hfz20_3:=blk_frozen BK254.out 3) | ((with_reducible refine gate_callee (f:=39) rfl ?_);refine Up.gl (some 21) Tryd.func39 #[.slice A0_3 l0_3.length c0_3,.int .i64 t255] ?_;(with_reducible refine (laws_szIntS.calls _ _ l0_3 t255 t256 _ ?side1 ?side2 A11.out).mono ?_);(case side1 => exact Up.Cx HR0_3 HB);(case side2 => exact HC0_3.out);rintro e w' ⟨rfl,⟨nd,rfl⟩⟩;refine ⟨_,rfl,?_⟩))
    go_ret
    exact Up.e1 (Up.Bx HB)
set_option maxHeartbeats 8000000 in
set_option maxRecDepth 100000 in
theorem laws_szValueS.calls (k : Nat) : ∀ (A0 : Option Addr) (c0 : Nat) (l0 : List (S39)) (a1 : Int) (r : Int) (w : World) (hr0 : Kd.C k39 w A0 l0.length l0) (hc0 : l0.length ≤ c0) (h : laws_szValueS.f k l0 a1 = some r),Calls Tryd.prog 38 #[.slice A0 l0.length c0,.int .i64 a1] w fun e w' => e = .returned (.int .i64 r) ∧ Below w.heap.size w w':=by
 refine Nat.strongRecOn (motive:=fun k => ∀ (A0 : Option Addr) (c0 : Nat) (l0 : List (S39)) (a1 : Int) (r : Int) (w : World) (hr0 : Kd.C k39 w A0 l0.length l0) (hc0 : l0.length ≤ c0) (h : laws_szValueS.f k l0 a1 = some r),Calls Tryd.prog 38 #[.slice A0 l0.length c0,.int .i64 a1] w fun e w' => e = .returned (.int .i64 r) ∧ Below w.heap.size w w') k (fun k ihS_ => ?_)
 intro A0 c0 l0 a1 r w hr0 hc0 h
 have hu39:=Tryd.underlying39
 have HR0:=Aside0.mk hr0
 have HC0:=Aside0.mk hc0
 clear hr0 hc0
 have HB:=Aside0.mk (Below.refl w.heap.size w)
 have H : (if (wrap64 (a1 - (l0.length : Int))) < 0 then (some (-1)) else (laws_szValueS.l0 k l0 (wrap64 (a1 - (l0.length : Int))) 0)) = some r:=h
 clear h
 by_cases c3 : (wrap64 (a1 - (l0.length : Int))) < 0
 ·rw [if_pos c3] at H
  have c3b0 : decide ((wrap64 (a1 - (l0.length : Int))) < 0) = true:=decide_eq_true c3
  clear c3
  obtain rfl:=Option.some.inj H
  go_enter Tryd.func38,Tryd.ntmps38
  go_wp2
  go_ret
  exact Up.e1 (Up.Bup HB)
 ·rw [if_neg c3] at H
  have c3b0 : decide ((wrap64 (a1 - (l0.length : Int))) < 0) = false:=decide_eq_false c3
  clear c3
  have H':=Aside0.mk H
  clear H
  go_enter Tryd.func38,Tryd.ntmps38
  go_wp2
  go_loopg [1,5] k (fun kq v1 v5 w' => ∃ (x1_1 : Int) (x5_1 : Int),v1 = .int .i64 x1_1 ∧ v5 = .int .i64 x5_1 ∧ Aside0 (laws_szValueS.l0 kq l0 x1_1 x5_1 = some r) ∧ Aside0 (kq ≤ k) ∧ Aside0 (Below w.heap.size w w'))
  case atStart => exact ⟨(wrap64 (a1 - (l0.length : Int))),(0),(by first | rfl | (simp;done) | (simp [*];done)),(by first | rfl | (simp;done) | (simp [*];done)),H',⟨Nat.le_refl _⟩,⟨Up.Bup HB⟩⟩
  case round =>
   clear H'
   try clear p2
   try clear c3
   try clear c3b0
   obtain ⟨x1_1,x5_1,rfl,rfl,HA,HK1,HB⟩:=hrel
   cases gk with
   | zero => exact absurd HA.out (by simp [laws_szValueS.l0])
   | succ k1 =>
    have H:=HA.out
    clear HA
    simp only [laws_szValueS.l0_eq] at H
    by_cases c4 : x5_1 < (l0.length : Int)
    ·rw [if_pos c4] at H
     have c4b0 : decide (x5_1 < (l0.length : Int)) = true:=decide_eq_true c4
     clear c4
     by_cases c5 : 0 ≤ x5_1
     ·rw [if_pos c5] at H
      have c5b0 : decide (0 ≤ x5_1) = true:=decide_eq_true c5
      clear c5
      replace H:=Option.bind_eq_some_iff.mp H
      obtain ⟨t253,A60,H⟩:=H
      replace H : (if t253 < 0 then (some (-1)) else (laws_szValueS.l0 k1 l0 t253 (wrap64 (x5_1 + 1)))) = some r:=H
      have A6:=Aside0.mk A60
      clear A60
      by_cases c7 : t253 < 0
      ·rw [if_pos c7] at H
       have c7b0 : decide (t253 < 0) = true:=decide_eq_true c7
       clear c7
       obtain rfl:=Option.some.inj H
       have p252 : 0 ≤ (x5_1 : Int):=Up.od
       have q252 : x5_1 < (l0.length : Int):=Up.od
       obtain ⟨ad252,A252_2,c252_2,A252_3,c252_3,e252,hx252_0,hx252_1,hx252_2,hx252_3,hl252_2,hi252_2,hl252_3,hi252_3⟩:=at_T39 HR0.out x5_1 p252 q252
       cases e252
       replace hx252_0:=Up.hc HB hx252_0
       replace hx252_1:=Up.hc HB hx252_1
       replace hx252_2:=Up.hc HB hx252_2
       replace hx252_3:=Up.hc HB hx252_3
       have HR252_2:=Aside0.mk hi252_2
       have HC252_2:=Aside0.mk hl252_2
       clear hi252_2 hl252_2
       have HR252_3:=Aside0.mk hi252_3
       have HC252_3:=Aside0.mk hl252_3
       clear hi252_3 hl252_3
       replace p252:=eq_true p252
       replace q252:=eq_true q252
       go_wp2_with (first | ((with_reducible refine gate_callee (f:=16) rfl ?_);refine Up.gl (some 23) Tryd.func16 #[.agg #[.string ((rd_T39 l0 x5_1).f0),.int .i64 ((rd_T39 l0 x5_1).f1),.slice A252_2 ((rd_T39 l0 x5_1).f2).length c252_2,.slice A252_3 ((rd_T39 l0 x5_1).f3).length c252_3],.int .i64 x1_1] ?_;(with_reducible refine (laws_szValue.calls_of k1 (ihS_ k1 (by have h_:=HK1.out;omega)) ((rd_T39 l0 x5_1).f0) ((rd_T39 l0 x5_1).f1) _ _ ((rd_T39 l0 x5_1).f2) _ _ ((rd_T39 l0 x5_1).f3) x1_1 t253 _ ?side1 ?side2 ?side3 ?side4 A6.out).mono ?_);(case side1 => exact Up.Cx HR252_2 HB);(case side2 => exact HC252_2.out);(case side3 => exact Up.Cx HR252_3 HB);(case side4 => exact HC252_3.out);rintro e w8 ⟨rfl,hb⟩;refine ⟨_,rfl,?_⟩;have n0_:=Up.BB HB hb;clear HB;have HB:=n0_;clear n0_;(try clear hb);(try clear hb2);(try clear hk);(try clear hi)))
       go_ret
       exact Up.e1 (Up.Bup HB)
      ·rw [if_neg c7] at H
       have c7b0 : decide (t253 < 0) = false:=decide_eq_false c7
       clear c7
       have H':=Aside0.mk H
       clear H
       have p252 : 0 ≤ (x5_1 : Int):=Up.od
       have q252 : x5_1 < (l0.length : Int):=Up.od
       obtain ⟨ad252,A252_2,c252_2,A252_3,c252_3,e252,hx252_0,hx252_1,hx252_2,hx252_3,hl252_2,hi252_2,hl252_3,hi252_3⟩:=at_T39 HR0.out x5_1 p252 q252
       cases e252
       replace hx252_0:=Up.hc HB hx252_0
       replace hx252_1:=Up.hc HB hx252_1
       replace hx252_2:=Up.hc HB hx252_2
       replace hx252_3:=Up.hc HB hx252_3
       have HR252_2:=Aside0.mk hi252_2
       have HC252_2:=Aside0.mk hl252_2
       clear hi252_2 hl252_2
       have HR252_3:=Aside0.mk hi252_3
       have HC252_3:=Aside0.mk hl252_3
       clear hi252_3 hl252_3
       replace p252:=eq_true p252
       replace q252:=eq_true q252
       go_wp2_with (first | ((with_reducible refine gate_callee (f:=16) rfl ?_);refine Up.gl (some 23) Tryd.func16 #[.agg #[.string ((rd_T39 l0 x5_1).f0),.int .i64 ((rd_T39 l0 x5_1).f1),.slice A252_2 ((rd_T39 l0 x5_1).f2).length c252_2,.slice A252_3 ((rd_T39 l0 x5_1).f3).length c252_3],.int .i64 x1_1] ?_;(with_reducible refine (laws_szValue.calls_of k1 (ihS_ k1 (by have h_:=HK1.out;omega)) ((rd_T39 l0 x5_1).f0) ((rd_T39 l0 x5_1).f1) _ _ ((rd_T39 l0 x5_1).f2) _ _ ((rd_T39 l0 x5_1).f3) x1_1 t253 _ ?side1 ?side2 ?side3 ?side4 A6.out).mono ?_);(case side1 => exact Up.Cx HR252_2 HB);(case side2 => exact HC252_2.out);(case side3 => exact Up.Cx HR252_3 HB);(case side4 => exact HC252_3.out);rintro e w9 ⟨rfl,hb⟩;refine ⟨_,rfl,?_⟩;have n0_:=Up.BB HB hb;clear HB;have HB:=n0_;clear n0_;(try clear hb);(try clear hb2);(try clear hk);(try clear hi)))
       go_roundg k1
       case measure => have:=HK1.out;omega
       case rel => exact ⟨(t253),(wrap64 (x5_1 + 1)),(by first | rfl | (simp;done) | (simp [*];done)),(by first | rfl | (simp;done) | (simp [*];done)),H',⟨by have:=HK1.out;omega⟩,⟨Up.Bup HB⟩⟩
     ·rw [if_neg c5] at H
      exact absurd H (by simp)
    ·rw [if_neg c4] at H
     have c4b0 : decide (x5_1 < (l0.length : Int)) = false:=decide_eq_false c4
     clear c4
     obtain rfl:=Option.some.inj H
     go_wp2
     go_ret
     exact Up.e1 (Up.Bup HB)
theorem laws_szValue.calls (k : Nat) (a0_0 : ByteArray) (a0_1 : Int) (A0_2 : Option Addr) (c0_2 : Nat) (l0_2 : List (S39)) (A0_3 : Option Addr) (c0_3 : Nat) (l0_3 : List Int) (a1 : Int) (r : Int) (w : World) (hr0_2 : Kd.C k39 w A0_2 l0_2.length l0_2) (hc0_2 : l0_2.length ≤ c0_2) (hr0_3 : Kd.C (Kd.int .i64) w A0_3 l0_3.length l0_3) (hc0_3 : l0_3.length ≤ c0_3) (h : laws_szValue.f k a0_0 a0_1 l0_2 l0_3 a1 = some r) :
  Calls Tryd.prog 16 #[.agg #[.string a0_0,.int .i64 a0_1,.slice A0_2 l0_2.length c0_2,.slice A0_3 l0_3.length c0_3],.int .i64 a1] w fun e w' => e = .returned (.int .i64 r) ∧ Below w.heap.size w w':=laws_szValue.calls_of k (laws_szValueS.calls k) a0_0 a0_1 A0_2 c0_2 l0_2 A0_3 c0_3 l0_3 a1 r w hr0_2 hc0_2 hr0_3 hc0_3 h

/-! ### laws_toStringS: function 80 -/
def laws_toStringS.l0 : Nat → List ByteArray → List ByteArray → Int → Option (List ByteArray)
 | 0,_,_,_ => none
 | k + 1,x0,x3,x4 => if x4 < (x0.length : Int) then (if 0 ≤ x4 then (if x4 < (x3.length : Int) then (laws_toStringS.l0 k x0 (x3.set (x4 : Int).toNat (rdOf ByteArray.empty x0 x4)) (wrap64 (x4 + 1))) else (none)) else (none)) else (some x3)
def laws_toStringS.f (k : Nat) (l0 : List ByteArray) : Option (List ByteArray):=if 0 ≤ (l0.length : Int) then (if ((l0.length : Int) : Int).toNat ≤ 17592186044416 then (laws_toStringS.l0 k l0 (List.replicate ((l0.length : Int) : Int).toNat (⟨#[]⟩ : ByteArray)) 0) else (none)) else (none)
theorem laws_toStringS.mono_l : ∀ k,(∀ y0 y1 y2,LeO (laws_toStringS.l0 k y0 y1 y2) (laws_toStringS.l0 (k + 1) y0 y1 y2))
 | 0 => fun _ _ _ r h => by simp [laws_toStringS.l0] at h
 | k + 1 => by
  have ih0:=laws_toStringS.mono_l k
  ·intro y0 y1 y2
   unfold laws_toStringS.l0
   repeat' first
   | (with_reducible exact ih0 _ _ _)
   | (with_reducible exact LeO.refl _)
   | (with_reducible exact LeO.none _)
   | (with_reducible refine LeO.ite ?_ ?_)
   | (with_reducible refine LeO.bind ?_ (fun _ => ?_))
   | exact ih0 _ _ _
   | exact LeO.none _
   | refine LeO.ite ?_ ?_
   | refine LeO.bind ?_ (fun _ => ?_)
theorem laws_toStringS.mono : ∀ a0 k,LeO (laws_toStringS.f k a0) (laws_toStringS.f (k + 1) a0):=by
 intro a0 k
 have ih0:=laws_toStringS.mono_l k
 unfold laws_toStringS.f
 repeat' first
   | (with_reducible exact ih0 _ _ _)
   | (with_reducible exact LeO.refl _)
   | (with_reducible exact LeO.none _)
   | (with_reducible refine LeO.ite ?_ ?_)
   | (with_reducible refine LeO.bind ?_ (fun _ => ?_))
   | exact ih0 _ _ _
   | exact LeO.none _
   | refine LeO.ite ?_ ?_
   | refine LeO.bind ?_ (fun _ => ?_)
set_option maxHeartbeats 8000000 in
set_option maxRecDepth 100000 in
theorem laws_toStringS.calls (k : Nat) (A0 : Option Addr) (c0 : Nat) (l0 : List ByteArray) (r : List ByteArray) (w : World) (hr0 : Kd.C Kd.string w A0 l0.length l0) (hc0 : l0.length ≤ c0) (h : laws_toStringS.f k l0 = some r) :
  Calls Tryd.prog 80 #[.slice A0 l0.length c0] w fun e w' => ∃ v0_ : Value,e = .returned (v0_) ∧ Kd.R Kd.string 9 w' w.heap.size (fun _ => True) v0_ r ∧ Below w.heap.size w w':=by
 have HR0:=Aside0.mk hr0
 have HC0:=Aside0.mk hc0
 clear hr0 hc0
 have HB:=Aside0.mk (Below.refl w.heap.size w)
 have H : (if 0 ≤ (l0.length : Int) then (if ((l0.length : Int) : Int).toNat ≤ 17592186044416 then (laws_toStringS.l0 k l0 (List.replicate ((l0.length : Int) : Int).toNat (⟨#[]⟩ : ByteArray)) 0) else (none)) else (none)) = some r:=h
 clear h
 by_cases c2 : 0 ≤ (l0.length : Int)
 ·rw [if_pos c2] at H
  have c2b0:=eq_true c2
  have c2b1 : decide (0 ≤ (l0.length : Int)) = true:=decide_eq_true c2
  clear c2
  by_cases c3 : ((l0.length : Int) : Int).toNat ≤ 17592186044416
  ·rw [if_pos c3] at H
   have c3b0:=eq_true c3
   have c3b1 : decide (((l0.length : Int) : Int).toNat ≤ 17592186044416) = true:=decide_eq_true c3
   clear c3
   obtain ⟨y257,hy257⟩ : ∃ y_ : List ByteArray,y_ = (List.replicate ((l0.length : Int) : Int).toNat (⟨#[]⟩ : ByteArray)):=⟨_,rfl⟩
   replace H : (laws_toStringS.l0 k l0 y257 0) = some r:=by first | (rw [hy257];with_reducible exact H) | (have H2_:=(Option.bind_some _ _).symm.trans H;rw [hy257];with_reducible exact H2_) | (have H2_:=(Option.bind_some _ _).symm.trans H;with_reducible exact H2_) | with_reducible exact H | (rw [hy257];exact H) | exact H
   have Ny257:=Aside0.mk hy257
   clear hy257
   have H':=Aside0.mk H
   clear H
   go_enter Tryd.func80,Tryd.ntmps80
   go_wp2_with (first | ((with_reducible refine gate_dst (N:=7) rfl ?_);refine Kd.R_make Kd.string _ 9 rfl (N:=7) rfl 73 _ _ rfl (l0.length : Int) rfl rfl Tryd.underlying73 (.string ⟨#[]⟩) 16 info9 rfl (by decide) (by omega) (⟨#[]⟩ : ByteArray) (ok:=fun _ => True) (okp:=fun _ => True) rfl (fun _ hk => hk) trivial (Up.od) (Nat.le_trans (Nat.mul_le_mul_right _ (Up.od : (l0.length : Int).toNat ≤ 17592186044416)) (by omega)) (Below.refl _ _) (Nat.le_refl _) ?_;intro v258 w4 ho5 hb hg_ hnew_;clear hg_ hnew_;(first | rw [← Ny257.out] at ho5 | (simp only [Int.reduceToNat] at ho5;rw [← Ny257.out] at ho5));have n0_:=Aside0.mk (Kd.R_lower ho5 (below_size (Up.Bup HB)));have n1_:=Up.BB HB hb;clear HB;have HO259:=n0_;have HB:=n1_;clear n0_ n1_ hb ho5))
   go_loopg [4] k (fun kq v4 w' => ∃ (x3_1 : List ByteArray) (x4_1 : Int),v4 = .int .i64 x4_1 ∧ Aside0 (laws_toStringS.l0 kq l0 x3_1 x4_1 = some r) ∧ Aside0 (kq ≤ k) ∧ Aside0 (Kd.R Kd.string 9 w' w.heap.size (fun _ => True) v258 x3_1) ∧ Aside0 (Below w.heap.size w w'))
   case atStart => exact ⟨(y257),(0),(by first | rfl | (simp;done) | (simp [*];done)),H',⟨Nat.le_refl _⟩,⟨Up.Rup HO259⟩,⟨Up.Bup HB⟩⟩
   case round =>
    clear H'
    try clear c2
    try clear c2b0
    try clear c2b1
    try clear p2
    try clear c3
    try clear c3b0
    try clear c3b1
    obtain ⟨x3_1,x4_1,rfl,HA,HK1,HO_3,HB⟩:=hrel
    cases gk with
    | zero => exact absurd HA.out (by simp [laws_toStringS.l0])
    | succ k1 =>
     have H:=HA.out
     clear HA
     simp only [laws_toStringS.l0] at H
     by_cases c6 : x4_1 < (l0.length : Int)
     ·rw [if_pos c6] at H
      have c6b0 : decide (x4_1 < (l0.length : Int)) = true:=decide_eq_true c6
      clear c6
      by_cases c7 : 0 ≤ x4_1
      ·rw [if_pos c7] at H
       have c7b0 : decide (0 ≤ x4_1) = true:=decide_eq_true c7
       clear c7
       by_cases c8 : x4_1 < (x3_1.length : Int)
       ·rw [if_pos c8] at H
        have c8b0 : decide (x4_1 < (x3_1.length : Int)) = true:=decide_eq_true c8
        clear c8
        obtain ⟨y261,hy261⟩ : ∃ y_ : List ByteArray,y_ = (x3_1.set (x4_1 : Int).toNat (rdOf ByteArray.empty l0 x4_1)):=⟨_,rfl⟩
        replace H : (laws_toStringS.l0 k1 l0 y261 (wrap64 (x4_1 + 1))) = some r:=by first | (rw [hy261];with_reducible exact H) | (have H2_:=(Option.bind_some _ _).symm.trans H;rw [hy261];with_reducible exact H2_) | (have H2_:=(Option.bind_some _ _).symm.trans H;with_reducible exact H2_) | with_reducible exact H | (rw [hy261];exact H) | exact H
        have Ny261:=Aside0.mk hy261
        clear hy261
        have H':=Aside0.mk H
        clear H
        have p260 : 0 ≤ (x4_1 : Int):=Up.od
        have q260 : x4_1 < (l0.length : Int):=Up.od
        obtain ⟨ad260,e260,hx260_0⟩:=Kd.at_string HR0.out x4_1 p260 q260
        cases e260
        replace hx260_0:=Up.hc HB hx260_0
        replace p260:=eq_true p260
        replace q260:=eq_true q260
        have p9 : 0 ≤ (x4_1 : Int):=Up.od
        have q9 : (x4_1 : Int) < ((x3_1.length : Int) : Int):=Up.od
        obtain ⟨go9,co9,eo9,gb9,gl9,cl9,HG9⟩:=Kd.R_form HO_3.out (by omega)
        (first | cases eo9 | (injection eo9 with ea_ en_ ec_;(first | subst ea_ | (injection ea_ with ea_;subst ea_));subst ec_;clear en_))
        have GB9:=Aside0.mk gb9
        have GG9:=Aside0.mk HG9
        clear gb9 gl9 HG9
        obtain ⟨hx9_0,hf9_0⟩:=Kd.R_celln (⟨#[]⟩ : ByteArray) HO_3.out (x4_1 : Int) p9 q9
        replace p9:=eq_true p9
        replace q9:=eq_true q9
        have HP10:=Kd.R_putg HO_3.out (x4_1 : Int) (rdOf ByteArray.empty l0 x4_1)
        go_wp2_with (first | ((with_reducible refine gate_store (t:=9) (p:=20) rfl ?_);refine store_event (t:=9) (p:=20) (v:=?vo_w11) (w1:=(wr.setCell ⟨go9,(x4_1 : Int).toNat,none⟩ (.string (rdOf ByteArray.empty l0 x4_1)))) ?hg ?ho ?hn ?hr ?_;(case ho => rfl);(case hg => rfl);(case hn => rfl);(case hr => first | (go_simp;done) | (go_simp;rfl));intro w11 hw;have hg : wr.grownBy w11 (some go9):=(by rw [hw];exact HP10.2);have hp_ : Kd.R Kd.string 9 w11 w.heap.size (fun _ => True) (.slice (some ⟨go9,0,none⟩) x3_1.length co9) y261:=(by rw [hw,Ny261.out];exact HP10.1);clear HP10;have n0_:=Aside0.mk (hp_);have n1_:=Aside0.mk ((by rw [hw];exact below_set (HB.out) GB9.out : Below w.heap.size w w11));clear HO_3 HB;have HO_3:=n0_;have HB:=n1_;clear n0_ n1_ hg hw hp_))
        go_roundg k1
        case measure => have:=HK1.out;omega
        case rel => exact ⟨(y261),(wrap64 (x4_1 + 1)),(by first | rfl | (simp;done) | (simp [*];done)),H',⟨by have:=HK1.out;omega⟩,⟨Up.Rup HO_3⟩,⟨Up.Bup HB⟩⟩
       ·rw [if_neg c8] at H
        exact absurd H (by simp)
      ·rw [if_neg c7] at H
       exact absurd H (by simp)
     ·rw [if_neg c6] at H
      have c6b0 : decide (x4_1 < (l0.length : Int)) = false:=decide_eq_false c6
      clear c6
      obtain rfl:=Option.some.inj H
      go_wp2
      go_ret
      exact ⟨_,by first | rfl | (simp [errW_none,errW_some] <;> rfl) | (simp [*,errW_none,errW_some] <;> rfl),Up.Rup HO_3,Up.Bup HB⟩
  ·rw [if_neg c3] at H
   exact absurd H (by simp)
 ·rw [if_neg c2] at H
  exact absurd H (by simp)

/-! ### laws_toRecord: function 66 -/
def laws_toRecord.f (k : Nat) (a0_0 : Int) (l0_1 : List ByteArray) : Option (Int × List ByteArray):=(laws_toStringS.f k l0_1).bind fun t265 => (some (a0_0,t265))
theorem laws_toRecord.mono : ∀ a0 a1 k,LeO (laws_toRecord.f k a0 a1) (laws_toRecord.f (k + 1) a0 a1):=by
 intro a0 a1 k
 unfold laws_toRecord.f
 repeat' first
   | (with_reducible exact laws_toStringS.mono _ _)
   | (with_reducible exact LeO.refl _)
   | (with_reducible exact LeO.none _)
   | (with_reducible refine LeO.ite ?_ ?_)
   | (with_reducible refine LeO.bind ?_ (fun _ => ?_))
   | exact laws_toStringS.mono _ _
   | exact LeO.none _
   | refine LeO.ite ?_ ?_
   | refine LeO.bind ?_ (fun _ => ?_)
set_option maxHeartbeats 8000000 in
set_option maxRecDepth 100000 in
theorem laws_toRecord.calls (k : Nat) (a0_0 : Int) (A0_1 : Option Addr) (c0_1 : Nat) (l0_1 : List ByteArray) (r1 : Int) (r2 : List ByteArray) (w : World) (hr0_1 : Kd.C Kd.string w A0_1 l0_1.length l0_1) (hc0_1 : l0_1.length ≤ c0_1) (h : laws_toRecord.f k a0_0 l0_1 = some (r1,r2)) :
  Calls Tryd.prog 66 #[.agg #[.int .i64 a0_0,.slice A0_1 l0_1.length c0_1]] w fun e w' => ∃ v1_ : Value,e = .returned (.agg #[.int .i64 r1,v1_]) ∧ Kd.R Kd.string 9 w' w.heap.size (fun _ => True) v1_ r2 ∧ Below w.heap.size w w':=by
 have hu99:=Tryd.underlying99
 have hu81:=Tryd.underlying81
 have HR0_1:=Aside0.mk hr0_1
 have HC0_1:=Aside0.mk hc0_1
 clear hr0_1 hc0_1
 have HB:=Aside0.mk (Below.refl w.heap.size w)
 have H : ((laws_toStringS.f k l0_1).bind fun t265 => (some (a0_0,t265))) = some (r1,r2):=h
 clear h
 replace H:=Option.bind_eq_some_iff.mp H
 obtain ⟨t265,A20,H⟩:=H
 replace H : (some (a0_0,t265)) = some (r1,r2):=H
 have A2:=Aside0.mk A20
 clear A20
 simp only [Option.some.injEq,Prod.mk.injEq] at H
 obtain ⟨rfl,rfl⟩:=H
 go_enter Tryd.func66,Tryd.ntmps66
 go_wp2_with (first | ((with_reducible refine gate_dst (N:=1) rfl ?_);refine Up.bx 1 99 #[.int .i64 a0_0,.slice A0_1 l0_1.length c0_1] ?_;intro gb262 hg w3 hbox hb;have n0_:=Up.BB HB hb;have n1_:=Aside0.mk (hbox);have n2_:=Up.gw hg HB;have n3_:=Up.gw hg HB;clear HB;have HB:=n0_;have BK262:=n1_;have GW262:=n2_;have GE262:=n3_;clear n0_ n1_ n2_ n3_ hb hbox hg) | ((with_reducible refine gate_dst (N:=2) rfl ?_);refine Up.bx 2 81 #[.int .i64 0,.slice none 0 0] ?_;intro gb263 hg w4 hbox hb;have n0_:=Up.KB BK262 hb;have n1_:=Aside0.mk (below_step (Up.Bx HB) hb);have n2_:=Aside0.mk (hbox);have n3_:=Up.gw hg HB;have n4_:=Up.gw hg HB;have n5_:=Up.nl hg BK262;have n6_:=Up.ng hg BK262;clear BK262 HB;have BK262:=n0_;have HB:=n1_;have BK263:=n2_;have GW263:=n3_;have GE263:=n4_;have NB262_263:=n5_;have NB263_262:=n6_;clear n0_ n1_ n2_ n3_ n4_ n5_ n6_ hb hbox hg) | ((with_reducible refine gate_dst (N:=3) rfl ?_);refine Up.bx 3 81 #[.int .i64 0,.slice none 0 0] ?_;intro gb264 hg w5 hbox hb;have n0_:=Up.KB BK262 hb;have n1_:=Up.KB BK263 hb;have n2_:=Aside0.mk (below_step (Up.Bx HB) hb);have n3_:=Aside0.mk (hbox);have n4_:=Up.gw hg HB;have n5_:=Up.gw hg HB;have n6_:=Up.nl hg BK262;have n7_:=Up.ng hg BK262;have n8_:=Up.nl hg BK263;have n9_:=Up.ng hg BK263;clear BK262 BK263 HB;have BK262:=n0_;have BK263:=n1_;have HB:=n2_;have BK264:=n3_;have GW264:=n4_;have GE264:=n5_;have NB262_264:=n6_;have NB264_262:=n7_;have NB263_264:=n8_;have NB264_263:=n9_;clear n0_ n1_ n2_ n3_ n4_ n5_ n6_ n7_ n8_ n9_ hb hbox hg;have hnb6:=NB262_263.out;have hnc6:=NB263_262.out;have hnb7:=NB262_264.out;have hnc7:=NB264_262.out;have hcz8_0:=Up.c0 BK262;have hcz8_1:=Up.c1 BK262;have hfz8_0:=blk_frozen BK262.out 0;have hfz8_1:=blk_frozen BK262.out 1;have hnb9:=NB264_263.out;have hnc9:=NB263_264.out;have hcz10_0:=Up.c0 BK264;have hcz10_1:=Up.c1 BK264;have hfz10_0:=blk_frozen BK264.out 0;have hfz10_1:=blk_frozen BK264.out 1) | ((with_reducible refine gate_callee (f:=80) rfl ?_);refine Up.gl (some 9) Tryd.func80 #[.slice A0_1 l0_1.length c0_1] ?_;(with_reducible refine (laws_toStringS.calls k _ _ l0_1 t265 _ ?side1 ?side2 A2.out).mono ?_);(case side1 => exact Kd.C_below HR0_1.out (Up.Bx HB));(case side2 => exact HC0_1.out);rintro e w11 ⟨v266,rfl,ho0,hb⟩;refine ⟨_,rfl,?_⟩;have n0_:=Aside0.mk (Kd.R_lower ho0 (below_size (Up.Bx HB)));have n1_:=Aside0.mk (blk_below (g:=gb262) (o:=.cells #[.int .i64 a0_0,.slice A0_1 l0_1.length c0_1] 99 (0,0)) (Up.Kx BK262) hb);have n2_:=Aside0.mk (blk_below (g:=gb263) (o:=.cells #[.int .i64 0,.slice none 0 0] 81 (0,0)) (Up.Kx BK263) hb);have n3_:=Aside0.mk (blk_below (g:=gb264) (o:=.cells #[.int .i64 a0_0,.slice none 0 0] 81 (0,0)) (Up.Kx BK264) hb);have n4_:=Aside0.mk (below_step (Up.Bx HB) hb);clear BK262 BK263 BK264 HB;have HO267:=n0_;have BK262:=n1_;have BK263:=n2_;have BK264:=n3_;have HB:=n4_;clear n0_ n1_ n2_ n3_ n4_;(try clear hb);(try clear hb2);(try clear hk);(try clear hi);(try clear ho0);obtain ⟨Ao12,co12,eo12⟩:=Kd.R_slice HO267.out;subst eo12;have hcz13_0:=Up.c0 BK264;have hcz13_1:=Up.c1 BK264;have hfz13_0:=blk_frozen BK264.out 0;have hfz13_1:=blk_frozen BK264.out 1;have hcz14_0:=Up.c0 BK263;have hcz14_1:=Up.c1 BK263;have hfz14_0:=blk_frozen BK263.out 0;have hfz14_1:=blk_frozen BK263.out 1))
 refine bodyPost_ret (results_cell_row rfl _ _ gb263 81 #[.int .i64 a0_0,.slice Ao12 t265.length co12] (0,0) _ rfl (Up.Kx BK263) Tryd.underlying81 rfl (by kernel_rfl)) rfl ?_
 exact ⟨_,by first | rfl | (simp [errW_none,errW_some] <;> rfl) | (simp [*,errW_none,errW_some] <;> rfl),by (with_reducible repeat (first | apply Kd.R_alloc | apply Kd.R_drewN | apply Kd.R_drew));exact Kd.R_mono (Kd.R_far (p:=⟨gb263,1,none⟩) (Kd.R_far (p:=⟨gb263,0,none⟩) (Kd.R_far (p:=⟨gb264,1,none⟩) (Kd.R_types (Kd.R_types HO267.out BK264.out (by decide)) BK263.out (by decide)) (fun _ hk => hk.1.2) (.slice Ao12 t265.length co12)) (fun _ hk => hk.2) (.int .i64 a0_0)) (fun _ hk => hk.2) (.slice Ao12 t265.length co12)) (fun _ hk => trivial),Up.Bx HB⟩

end Go.Proofs.YtdgmlakgnbmbbaaDoor.OFnExactValueText
