-- Laid by a program of this session (wip/myprint.py): the kit's print of the functions, contracts of our own among them.
import Derived.Test.YtdgmlakgnbmbbaaOFnExactValueReadx0
namespace Go.Proofs.Ytdgmlakgnbmbbaa.OFnExactValueRead
open Go.RowKit Go.Proofs.YtdgmlakgnbmbbaaW.PrintWords Go.Proofs.YtdgmlakgnbmbbaaW.PrintLast Go.Proofs.YtdgmlakgnbmbbaaW.PrintMore
attribute [local go_sem] max2_int min2_int max_two min_two max_three min_three max_four min_four   -- for this text's walks alone
set_option linter.unusedVariables false
set_option linter.unusedSimpArgs false

/-! ### laws_szStringS: function 115 -/
def laws_szStringS.l0 : Nat → List ByteArray → Int → Int → Option (Int)
 | 0,_,_,_ => none
 | k + 1,x0,x1,x5 => if x5 < (x0.length : Int) then (if 0 ≤ x5 then (if (wrap64 (x1 - ((rdOf ByteArray.empty x0 x5).size : Int))) < 0 then (some (-1)) else (laws_szStringS.l0 k x0 (wrap64 (x1 - ((rdOf ByteArray.empty x0 x5).size : Int))) (wrap64 (x5 + 1)))) else (none)) else (some x1)
def laws_szStringS.f (k : Nat) (l0 : List ByteArray) (a1 : Int) : Option (Int):=if (wrap64 (a1 - (l0.length : Int))) < 0 then (some (-1)) else (laws_szStringS.l0 k l0 (wrap64 (a1 - (l0.length : Int))) 0)
theorem laws_szStringS.mono_l : ∀ k,(∀ y0 y1 y2,LeO (laws_szStringS.l0 k y0 y1 y2) (laws_szStringS.l0 (k + 1) y0 y1 y2))
 | 0 => fun _ _ _ r h => by simp [laws_szStringS.l0] at h
 | k + 1 => by
  have ih0:=laws_szStringS.mono_l k
  ·intro y0 y1 y2;unfold laws_szStringS.l0;repeat' first
   | (with_reducible exact ih0 _ _ _)
   | (with_reducible exact LeO.refl _)
   | (with_reducible exact LeO.none _)
   | (with_reducible refine LeO.ite ?_ ?_)
   | (with_reducible refine LeO.bind ?_ (fun _ => ?_))
   | exact ih0 _ _ _
   | exact LeO.none _
   | refine LeO.ite ?_ ?_
   | refine LeO.bind ?_ (fun _ => ?_)
theorem laws_szStringS.mono : ∀ a0 a1 k,LeO (laws_szStringS.f k a0 a1) (laws_szStringS.f (k + 1) a0 a1):=by
 intro a0 a1 k;have ih0:=laws_szStringS.mono_l k;unfold laws_szStringS.f
 repeat' first
   | (with_reducible exact ih0 _ _ _)
   | (with_reducible exact LeO.refl _)
   | (with_reducible exact LeO.none _)
   | (with_reducible refine LeO.ite ?_ ?_)
   | (with_reducible refine LeO.bind ?_ (fun _ => ?_))
   | exact ih0 _ _ _
   | exact LeO.none _
   | refine LeO.ite ?_ ?_
   | refine LeO.bind ?_ (fun _ => ?_)
set_option maxHeartbeats 8000000 in
set_option maxRecDepth 100000 in
theorem laws_szStringS.calls (k : Nat) (A0 : Option Addr) (c0 : Nat) (l0 : List ByteArray) (a1 : Int) (r : Int) (w : World) (hr0 : Kd.C Kd.string w A0 l0.length l0) (hc0 : l0.length ≤ c0) (h : laws_szStringS.f k l0 a1 = some r) :
  Calls Try.prog 115 #[.slice A0 l0.length c0,.int .i64 a1] w fun e w' => e = .returned (.int .i64 r) ∧ Drawn0 w w':=by
 have HR0:=Aside0.mk hr0;have HC0:=Aside0.mk hc0;clear hr0 hc0;have H : (if (wrap64 (a1 - (l0.length : Int))) < 0 then (some (-1)) else (laws_szStringS.l0 k l0 (wrap64 (a1 - (l0.length : Int))) 0)) = some r:=h;clear h;by_cases c3 : (wrap64 (a1 - (l0.length : Int))) < 0
 ·(rw [if_pos c3] at H);have c3b0:=decide_eq_true c3;clear c3;obtain rfl:=Option.some.inj H;go_enter Try.func115,Try.ntmps115;go_wp2;go_ret;exact Up.e2
 ·(rw [if_neg c3] at H);have c3b0:=decide_eq_false c3;clear c3;have H':=Aside0.mk H;clear H;go_enter Try.func115,Try.ntmps115;go_wp2;go_loopg [1,5] k (fun kq v1 v5 w' => ∃ (x1_1 : Int) (x5_1 : Int),v1 = .int .i64 x1_1 ∧ v5 = .int .i64 x5_1 ∧ Aside0 (laws_szStringS.l0 kq l0 x1_1 x5_1 = some r) ∧ Aside0 (kq ≤ k) ∧ Drawn0 w w')
  case atStart => exact ⟨(wrap64 (a1 - (l0.length : Int))),(0),(by first | rfl | (simp;done) | (simp [*];done)),(by first | rfl | (simp;done) | (simp [*];done)),H',⟨Nat.le_refl _⟩,by repeat (first | exact Drawn0.refl _ | apply Drawn0.step)⟩
  case round =>
   clear H';(try clear c1);(try clear p2);(try clear c3);(try clear c3b0);obtain ⟨x1_1,x5_1,rfl,rfl,HA,HK1,⟨m1,rfl⟩⟩:=hrel;cases gk with
   | zero => exact absurd HA.out (by simp [laws_szStringS.l0])
   | succ k1 =>
    have H:=HA.out;clear HA;(simp only [laws_szStringS.l0] at H);by_cases c4 : x5_1 < (l0.length : Int)
    ·(rw [if_pos c4] at H);have c4b0:=decide_eq_true c4;clear c4;replace H:=Up.ip H;obtain ⟨c5,H⟩:=H;have c5b0:=decide_eq_true c5;clear c5;by_cases c6 : (wrap64 (x1_1 - ((rdOf ByteArray.empty l0 x5_1).size : Int))) < 0
     ·(rw [if_pos c6] at H);have c6b0:=decide_eq_true c6;clear c6;obtain rfl:=Option.some.inj H;have p101 : 0 ≤ (x5_1 : Int):=Up.od;have q101 : x5_1 < (l0.length : Int):=Up.od;obtain ⟨ad101,e101,hx101_0⟩:=Kd.at_string HR0.out x5_1 p101 q101;cases e101;replace p101:=eq_true p101;replace q101:=eq_true q101;go_wp2;go_ret;exact Up.e2
     ·(rw [if_neg c6] at H);have c6b0:=decide_eq_false c6;clear c6;have H':=Aside0.mk H;clear H;have p101 : 0 ≤ (x5_1 : Int):=Up.od;have q101 : x5_1 < (l0.length : Int):=Up.od;obtain ⟨ad101,e101,hx101_0⟩:=Kd.at_string HR0.out x5_1 p101 q101;cases e101;replace p101:=eq_true p101;replace q101:=eq_true q101;go_wp2;go_roundg k1
      case measure => have:=HK1.out;omega
      case rel => exact ⟨(wrap64 (x1_1 - ((rdOf ByteArray.empty l0 x5_1).size : Int))),(wrap64 (x5_1 + 1)),(by first | rfl | (simp;done) | (simp [*];done)),(by first | rfl | (simp;done) | (simp [*];done)),H',⟨by have:=HK1.out;omega⟩,by repeat (first | exact Drawn0.refl _ | apply Drawn0.step)⟩
    ·(rw [if_neg c4] at H);have c4b0:=decide_eq_false c4;clear c4;obtain rfl:=Option.some.inj H;go_wp2;go_ret;exact Up.e2

/-! ### laws_szRecord: function 94 -/
def laws_szRecord.f (k : Nat) (a0_0 : Int) (l0_1 : List ByteArray) (a1 : Int) : Option (Int):=(laws_szStringS.f k l0_1 a1).bind fun t103 => (if t103 < 0 then (some (-1)) else (some t103))
theorem laws_szRecord.mono : ∀ a0 a1 a2 k,LeO (laws_szRecord.f k a0 a1 a2) (laws_szRecord.f (k + 1) a0 a1 a2):=by
 intro a0 a1 a2 k;unfold laws_szRecord.f
 repeat' first
   | (with_reducible exact laws_szStringS.mono _ _ _)
   | (with_reducible exact LeO.refl _)
   | (with_reducible exact LeO.none _)
   | (with_reducible refine LeO.ite ?_ ?_)
   | (with_reducible refine LeO.bind ?_ (fun _ => ?_))
   | exact laws_szStringS.mono _ _ _
   | exact LeO.none _
   | refine LeO.ite ?_ ?_
   | refine LeO.bind ?_ (fun _ => ?_)
set_option maxHeartbeats 8000000 in
set_option maxRecDepth 100000 in
theorem laws_szRecord.calls (k : Nat) (a0_0 : Int) (A0_1 : Option Addr) (c0_1 : Nat) (l0_1 : List ByteArray) (a1 : Int) (r : Int) (w : World) (hr0_1 : Kd.C Kd.string w A0_1 l0_1.length l0_1) (hc0_1 : l0_1.length ≤ c0_1) (h : laws_szRecord.f k a0_0 l0_1 a1 = some r) :
  Calls Try.prog 94 #[.agg #[.int .i64 a0_0,.slice A0_1 l0_1.length c0_1],.int .i64 a1] w fun e w' => e = .returned (.int .i64 r) ∧ Below w.heap.size w w':=by
 have hu124:=Try.underlying124;have HR0_1:=Aside0.mk hr0_1;have HC0_1:=Aside0.mk hc0_1;clear hr0_1 hc0_1;have HB:=Aside0.mk (Below.refl w.heap.size w);have H : ((laws_szStringS.f k l0_1 a1).bind fun t103 => (if t103 < 0 then (some (-1)) else (some t103))) = some r:=h;clear h;replace H:=Up.bd H;obtain ⟨t103,A3,H⟩:=H;(try dsimp only at H);by_cases c4 : t103 < 0
 ·(rw [if_pos c4] at H);have c4b0:=decide_eq_true c4;clear c4;obtain rfl:=Option.some.inj H;go_enter Try.func94,Try.ntmps94;go_wp2_with (first | ((with_reducible refine gate_dst (N:=2) rfl ?_);refine Up.bx 2 124 #[.int .i64 a0_0,.slice A0_1 l0_1.length c0_1] ?_;intro gb102 hg w5 hbox hb;have BK102:=Aside0.mk (hbox);have GW102:=Up.gw hg HB;have GE102:=Up.gw hg HB;replace HB:=Up.BB HB hb;clear hb hbox hg;obtain ⟨hcz6_0,hcz6_1,hfz6_0,hfz6_1⟩:=Up.d2 BK102) | ((with_reducible refine gate_callee (f:=115) rfl ?_);refine Up.gl (some 8) Try.func115 #[.slice A0_1 l0_1.length c0_1,.int .i64 a1] ?_;(with_reducible refine (laws_szStringS.calls k _ _ l0_1 a1 t103 _ ?side1 ?side2 A3.out).mono ?_);(case side1 => exact Up.Cx HR0_1 HB);(case side2 => exact HC0_1.out);rintro e w' ⟨rfl,⟨nd,rfl⟩⟩;refine ⟨_,rfl,?_⟩));go_ret;exact Up.e1 (Up.Bx HB)
 ·(rw [if_neg c4] at H);have c4b0:=decide_eq_false c4;clear c4;obtain rfl:=Option.some.inj H;go_enter Try.func94,Try.ntmps94;go_wp2_with (first | ((with_reducible refine gate_dst (N:=2) rfl ?_);refine Up.bx 2 124 #[.int .i64 a0_0,.slice A0_1 l0_1.length c0_1] ?_;intro gb102 hg w7 hbox hb;have BK102:=Aside0.mk (hbox);have GW102:=Up.gw hg HB;have GE102:=Up.gw hg HB;replace HB:=Up.BB HB hb;clear hb hbox hg;obtain ⟨hcz8_0,hcz8_1,hfz8_0,hfz8_1⟩:=Up.d2 BK102) | ((with_reducible refine gate_callee (f:=115) rfl ?_);refine Up.gl (some 8) Try.func115 #[.slice A0_1 l0_1.length c0_1,.int .i64 a1] ?_;(with_reducible refine (laws_szStringS.calls k _ _ l0_1 a1 t103 _ ?side1 ?side2 A3.out).mono ?_);(case side1 => exact Up.Cx HR0_1 HB);(case side2 => exact HC0_1.out);rintro e w' ⟨rfl,⟨nd,rfl⟩⟩;refine ⟨_,rfl,?_⟩));go_ret;exact Up.e1 (Up.Bx HB)

/-! ### laws_szRecordS: function 53 -/
def laws_szRecordS.l0 : Nat → List (S124) → Int → Int → Option (Int)
 | 0,_,_,_ => none
 | k + 1,x0,x1,x5 => if x5 < (x0.length : Int) then (if 0 ≤ x5 then ((laws_szRecord.f k ((rd_T124 x0 x5).f0) ((rd_T124 x0 x5).f1) x1).bind fun t105 => (if t105 < 0 then (some (-1)) else (laws_szRecordS.l0 k x0 t105 (wrap64 (x5 + 1))))) else (none)) else (some x1)
def laws_szRecordS.f (k : Nat) (l0 : List (S124)) (a1 : Int) : Option (Int):=if (wrap64 (a1 - (l0.length : Int))) < 0 then (some (-1)) else (laws_szRecordS.l0 k l0 (wrap64 (a1 - (l0.length : Int))) 0)
theorem laws_szRecordS.mono_l : ∀ k,(∀ y0 y1 y2,LeO (laws_szRecordS.l0 k y0 y1 y2) (laws_szRecordS.l0 (k + 1) y0 y1 y2))
 | 0 => fun _ _ _ r h => by simp [laws_szRecordS.l0] at h
 | k + 1 => by
  have ih0:=laws_szRecordS.mono_l k
  ·intro y0 y1 y2;unfold laws_szRecordS.l0;repeat' first
   | (with_reducible exact ih0 _ _ _)
   | (with_reducible exact laws_szRecord.mono _ _ _ _)
   | (with_reducible exact LeO.refl _)
   | (with_reducible exact LeO.none _)
   | (with_reducible refine LeO.ite ?_ ?_)
   | (with_reducible refine LeO.bind ?_ (fun _ => ?_))
   | exact ih0 _ _ _
   | exact laws_szRecord.mono _ _ _ _
   | exact LeO.none _
   | refine LeO.ite ?_ ?_
   | refine LeO.bind ?_ (fun _ => ?_)
theorem laws_szRecordS.mono : ∀ a0 a1 k,LeO (laws_szRecordS.f k a0 a1) (laws_szRecordS.f (k + 1) a0 a1):=by
 intro a0 a1 k;have ih0:=laws_szRecordS.mono_l k;unfold laws_szRecordS.f
 repeat' first
   | (with_reducible exact ih0 _ _ _)
   | (with_reducible exact laws_szRecord.mono _ _ _ _)
   | (with_reducible exact LeO.refl _)
   | (with_reducible exact LeO.none _)
   | (with_reducible refine LeO.ite ?_ ?_)
   | (with_reducible refine LeO.bind ?_ (fun _ => ?_))
   | exact ih0 _ _ _
   | exact laws_szRecord.mono _ _ _ _
   | exact LeO.none _
   | refine LeO.ite ?_ ?_
   | refine LeO.bind ?_ (fun _ => ?_)
set_option maxHeartbeats 8000000 in
set_option maxRecDepth 100000 in
theorem laws_szRecordS.calls (k : Nat) (A0 : Option Addr) (c0 : Nat) (l0 : List (S124)) (a1 : Int) (r : Int) (w : World) (hr0 : Kd.C k124 w A0 l0.length l0) (hc0 : l0.length ≤ c0) (h : laws_szRecordS.f k l0 a1 = some r) :
  Calls Try.prog 53 #[.slice A0 l0.length c0,.int .i64 a1] w fun e w' => e = .returned (.int .i64 r) ∧ Below w.heap.size w w':=by
 have hu124:=Try.underlying124;have HR0:=Aside0.mk hr0;have HC0:=Aside0.mk hc0;clear hr0 hc0;have HB:=Aside0.mk (Below.refl w.heap.size w);have H : (if (wrap64 (a1 - (l0.length : Int))) < 0 then (some (-1)) else (laws_szRecordS.l0 k l0 (wrap64 (a1 - (l0.length : Int))) 0)) = some r:=h;clear h;by_cases c3 : (wrap64 (a1 - (l0.length : Int))) < 0
 ·(rw [if_pos c3] at H);have c3b0:=decide_eq_true c3;clear c3;obtain rfl:=Option.some.inj H;go_enter Try.func53,Try.ntmps53;go_wp2;go_ret;exact Up.e1 (Up.Bup HB)
 ·(rw [if_neg c3] at H);have c3b0:=decide_eq_false c3;clear c3;have H':=Aside0.mk H;clear H;go_enter Try.func53,Try.ntmps53;go_wp2;go_loopg [1,5] k (fun kq v1 v5 w' => ∃ (x1_1 : Int) (x5_1 : Int),v1 = .int .i64 x1_1 ∧ v5 = .int .i64 x5_1 ∧ Aside0 (laws_szRecordS.l0 kq l0 x1_1 x5_1 = some r) ∧ Aside0 (kq ≤ k) ∧ Aside0 (Below w.heap.size w w'))
  case atStart => exact ⟨(wrap64 (a1 - (l0.length : Int))),(0),(by first | rfl | (simp;done) | (simp [*];done)),(by first | rfl | (simp;done) | (simp [*];done)),H',⟨Nat.le_refl _⟩,⟨Up.Bup HB⟩⟩
  case round =>
   clear H';(try clear p2);(try clear c3);(try clear c3b0);obtain ⟨x1_1,x5_1,rfl,rfl,HA,HK1,HB⟩:=hrel;cases gk with
   | zero => exact absurd HA.out (by simp [laws_szRecordS.l0])
   | succ k1 =>
    have H:=HA.out;clear HA;(simp only [laws_szRecordS.l0] at H);by_cases c4 : x5_1 < (l0.length : Int)
    ·(rw [if_pos c4] at H);have c4b0:=decide_eq_true c4;clear c4;replace H:=Up.ip H;obtain ⟨c5,H⟩:=H;have c5b0:=decide_eq_true c5;clear c5;replace H:=Up.bd H;obtain ⟨t105,A6,H⟩:=H;(try dsimp only at H);by_cases c7 : t105 < 0
     ·(rw [if_pos c7] at H);have c7b0:=decide_eq_true c7;clear c7;obtain rfl:=Option.some.inj H;have p104 : 0 ≤ (x5_1 : Int):=Up.od;have q104 : x5_1 < (l0.length : Int):=Up.od;obtain ⟨ad104,A104_1,c104_1,e104,hx104_0,hx104_1,hl104_1,hi104_1⟩:=at_T124 HR0.out x5_1 p104 q104;cases e104;replace hx104_0:=Up.hc HB hx104_0;replace hx104_1:=Up.hc HB hx104_1;have HR104_1:=Aside0.mk hi104_1;have HC104_1:=Aside0.mk hl104_1;clear hi104_1 hl104_1;replace p104:=eq_true p104;replace q104:=eq_true q104;go_wp2_with (first | ((with_reducible refine gate_callee (f:=94) rfl ?_);refine Up.gl (some 23) Try.func94 #[.agg #[.int .i64 ((rd_T124 l0 x5_1).f0),.slice A104_1 ((rd_T124 l0 x5_1).f1).length c104_1],.int .i64 x1_1] ?_;(with_reducible refine (laws_szRecord.calls k1 ((rd_T124 l0 x5_1).f0) _ _ ((rd_T124 l0 x5_1).f1) x1_1 t105 _ ?side1 ?side2 A6.out).mono ?_);(case side1 => exact Up.Cx HR104_1 HB);(case side2 => exact HC104_1.out);rintro e w8 ⟨rfl,hb⟩;refine ⟨_,rfl,?_⟩;replace HB:=Up.BB HB hb;(try clear hb);(try clear hb2);(try clear hk);(try clear hi)));go_ret;exact Up.e1 (Up.Bup HB)
     ·(rw [if_neg c7] at H);have c7b0:=decide_eq_false c7;clear c7;have H':=Aside0.mk H;clear H;have p104 : 0 ≤ (x5_1 : Int):=Up.od;have q104 : x5_1 < (l0.length : Int):=Up.od;obtain ⟨ad104,A104_1,c104_1,e104,hx104_0,hx104_1,hl104_1,hi104_1⟩:=at_T124 HR0.out x5_1 p104 q104;cases e104;replace hx104_0:=Up.hc HB hx104_0;replace hx104_1:=Up.hc HB hx104_1;have HR104_1:=Aside0.mk hi104_1;have HC104_1:=Aside0.mk hl104_1;clear hi104_1 hl104_1;replace p104:=eq_true p104;replace q104:=eq_true q104;go_wp2_with (first | ((with_reducible refine gate_callee (f:=94) rfl ?_);refine Up.gl (some 23) Try.func94 #[.agg #[.int .i64 ((rd_T124 l0 x5_1).f0),.slice A104_1 ((rd_T124 l0 x5_1).f1).length c104_1],.int .i64 x1_1] ?_;(with_reducible refine (laws_szRecord.calls k1 ((rd_T124 l0 x5_1).f0) _ _ ((rd_T124 l0 x5_1).f1) x1_1 t105 _ ?side1 ?side2 A6.out).mono ?_);(case side1 => exact Up.Cx HR104_1 HB);(case side2 => exact HC104_1.out);rintro e w9 ⟨rfl,hb⟩;refine ⟨_,rfl,?_⟩;replace HB:=Up.BB HB hb;(try clear hb);(try clear hb2);(try clear hk);(try clear hi)));go_roundg k1
      case measure => have:=HK1.out;omega
      case rel => exact ⟨(t105),(wrap64 (x5_1 + 1)),(by first | rfl | (simp;done) | (simp [*];done)),(by first | rfl | (simp;done) | (simp [*];done)),H',⟨by have:=HK1.out;omega⟩,⟨Up.Bup HB⟩⟩
    ·(rw [if_neg c4] at H);have c4b0:=decide_eq_false c4;clear c4;obtain rfl:=Option.some.inj H;go_wp2;go_ret;exact Up.e1 (Up.Bup HB)

/-! ### laws_szRecordSS: function 18 -/
def laws_szRecordSS.l0 : Nat → List (List (S124)) → Int → Int → Option (Int)
 | 0,_,_,_ => none
 | k + 1,x0,x1,x5 => if x5 < (x0.length : Int) then (if 0 ≤ x5 then ((laws_szRecordS.f k (rd_L4 x0 x5) x1).bind fun t107 => (if t107 < 0 then (some (-1)) else (laws_szRecordSS.l0 k x0 t107 (wrap64 (x5 + 1))))) else (none)) else (some x1)
def laws_szRecordSS.f (k : Nat) (l0 : List (List (S124))) (a1 : Int) : Option (Int):=if (wrap64 (a1 - (l0.length : Int))) < 0 then (some (-1)) else (laws_szRecordSS.l0 k l0 (wrap64 (a1 - (l0.length : Int))) 0)
theorem laws_szRecordSS.mono_l : ∀ k,(∀ y0 y1 y2,LeO (laws_szRecordSS.l0 k y0 y1 y2) (laws_szRecordSS.l0 (k + 1) y0 y1 y2))
 | 0 => fun _ _ _ r h => by simp [laws_szRecordSS.l0] at h
 | k + 1 => by
  have ih0:=laws_szRecordSS.mono_l k
  ·intro y0 y1 y2;unfold laws_szRecordSS.l0;repeat' first
   | (with_reducible exact ih0 _ _ _)
   | (with_reducible exact laws_szRecordS.mono _ _ _)
   | (with_reducible exact LeO.refl _)
   | (with_reducible exact LeO.none _)
   | (with_reducible refine LeO.ite ?_ ?_)
   | (with_reducible refine LeO.bind ?_ (fun _ => ?_))
   | exact ih0 _ _ _
   | exact laws_szRecordS.mono _ _ _
   | exact LeO.none _
   | refine LeO.ite ?_ ?_
   | refine LeO.bind ?_ (fun _ => ?_)
theorem laws_szRecordSS.mono : ∀ a0 a1 k,LeO (laws_szRecordSS.f k a0 a1) (laws_szRecordSS.f (k + 1) a0 a1):=by
 intro a0 a1 k;have ih0:=laws_szRecordSS.mono_l k;unfold laws_szRecordSS.f
 repeat' first
   | (with_reducible exact ih0 _ _ _)
   | (with_reducible exact laws_szRecordS.mono _ _ _)
   | (with_reducible exact LeO.refl _)
   | (with_reducible exact LeO.none _)
   | (with_reducible refine LeO.ite ?_ ?_)
   | (with_reducible refine LeO.bind ?_ (fun _ => ?_))
   | exact ih0 _ _ _
   | exact laws_szRecordS.mono _ _ _
   | exact LeO.none _
   | refine LeO.ite ?_ ?_
   | refine LeO.bind ?_ (fun _ => ?_)
set_option maxHeartbeats 8000000 in
set_option maxRecDepth 100000 in
theorem laws_szRecordSS.calls (k : Nat) (A0 : Option Addr) (c0 : Nat) (l0 : List (List (S124))) (a1 : Int) (r : Int) (w : World) (hr0 : Kd.C (Kd.slice 124 k124) w A0 l0.length l0) (hc0 : l0.length ≤ c0) (h : laws_szRecordSS.f k l0 a1 = some r) :
  Calls Try.prog 18 #[.slice A0 l0.length c0,.int .i64 a1] w fun e w' => e = .returned (.int .i64 r) ∧ Below w.heap.size w w':=by
 have HR0:=Aside0.mk hr0;have HC0:=Aside0.mk hc0;clear hr0 hc0;have HB:=Aside0.mk (Below.refl w.heap.size w);have H : (if (wrap64 (a1 - (l0.length : Int))) < 0 then (some (-1)) else (laws_szRecordSS.l0 k l0 (wrap64 (a1 - (l0.length : Int))) 0)) = some r:=h;clear h;by_cases c3 : (wrap64 (a1 - (l0.length : Int))) < 0
 ·(rw [if_pos c3] at H);have c3b0:=decide_eq_true c3;clear c3;obtain rfl:=Option.some.inj H;go_enter Try.func18,Try.ntmps18;go_wp2;go_ret;exact Up.e1 (Up.Bup HB)
 ·(rw [if_neg c3] at H);have c3b0:=decide_eq_false c3;clear c3;have H':=Aside0.mk H;clear H;go_enter Try.func18,Try.ntmps18;go_wp2;go_loopg [1,5] k (fun kq v1 v5 w' => ∃ (x1_1 : Int) (x5_1 : Int),v1 = .int .i64 x1_1 ∧ v5 = .int .i64 x5_1 ∧ Aside0 (laws_szRecordSS.l0 kq l0 x1_1 x5_1 = some r) ∧ Aside0 (kq ≤ k) ∧ Aside0 (Below w.heap.size w w'))
  case atStart => exact ⟨(wrap64 (a1 - (l0.length : Int))),(0),(by first | rfl | (simp;done) | (simp [*];done)),(by first | rfl | (simp;done) | (simp [*];done)),H',⟨Nat.le_refl _⟩,⟨Up.Bup HB⟩⟩
  case round =>
   clear H';(try clear c1);(try clear p2);(try clear c3);(try clear c3b0);obtain ⟨x1_1,x5_1,rfl,rfl,HA,HK1,HB⟩:=hrel;cases gk with
   | zero => exact absurd HA.out (by simp [laws_szRecordSS.l0])
   | succ k1 =>
    have H:=HA.out;clear HA;(simp only [laws_szRecordSS.l0] at H);by_cases c4 : x5_1 < (l0.length : Int)
    ·(rw [if_pos c4] at H);have c4b0:=decide_eq_true c4;clear c4;replace H:=Up.ip H;obtain ⟨c5,H⟩:=H;have c5b0:=decide_eq_true c5;clear c5;replace H:=Up.bd H;obtain ⟨t107,A6,H⟩:=H;(try dsimp only at H);by_cases c7 : t107 < 0
     ·(rw [if_pos c7] at H);have c7b0:=decide_eq_true c7;clear c7;obtain rfl:=Option.some.inj H;have p106 : 0 ≤ (x5_1 : Int):=Up.od;have q106 : x5_1 < (l0.length : Int):=Up.od;obtain ⟨ad106,A106_0,c106_0,e106,hx106_0,hl106_0,hi106_0⟩:=at_L4 HR0.out x5_1 p106 q106;cases e106;replace hx106_0:=Up.hc HB hx106_0;have HR106_0:=Aside0.mk hi106_0;have HC106_0:=Aside0.mk hl106_0;clear hi106_0 hl106_0;replace p106:=eq_true p106;replace q106:=eq_true q106;go_wp2_with (first | ((with_reducible refine gate_callee (f:=53) rfl ?_);refine Up.gl (some 23) Try.func53 #[.slice A106_0 (rd_L4 l0 x5_1).length c106_0,.int .i64 x1_1] ?_;(with_reducible refine (laws_szRecordS.calls k1 _ _ (rd_L4 l0 x5_1) x1_1 t107 _ ?side1 ?side2 A6.out).mono ?_);(case side1 => exact Up.Cx HR106_0 HB);(case side2 => exact HC106_0.out);rintro e w8 ⟨rfl,hb⟩;refine ⟨_,rfl,?_⟩;replace HB:=Up.BB HB hb;(try clear hb);(try clear hb2);(try clear hk);(try clear hi)));go_ret;exact Up.e1 (Up.Bup HB)
     ·(rw [if_neg c7] at H);have c7b0:=decide_eq_false c7;clear c7;have H':=Aside0.mk H;clear H;have p106 : 0 ≤ (x5_1 : Int):=Up.od;have q106 : x5_1 < (l0.length : Int):=Up.od;obtain ⟨ad106,A106_0,c106_0,e106,hx106_0,hl106_0,hi106_0⟩:=at_L4 HR0.out x5_1 p106 q106;cases e106;replace hx106_0:=Up.hc HB hx106_0;have HR106_0:=Aside0.mk hi106_0;have HC106_0:=Aside0.mk hl106_0;clear hi106_0 hl106_0;replace p106:=eq_true p106;replace q106:=eq_true q106;go_wp2_with (first | ((with_reducible refine gate_callee (f:=53) rfl ?_);refine Up.gl (some 23) Try.func53 #[.slice A106_0 (rd_L4 l0 x5_1).length c106_0,.int .i64 x1_1] ?_;(with_reducible refine (laws_szRecordS.calls k1 _ _ (rd_L4 l0 x5_1) x1_1 t107 _ ?side1 ?side2 A6.out).mono ?_);(case side1 => exact Up.Cx HR106_0 HB);(case side2 => exact HC106_0.out);rintro e w9 ⟨rfl,hb⟩;refine ⟨_,rfl,?_⟩;replace HB:=Up.BB HB hb;(try clear hb);(try clear hb2);(try clear hk);(try clear hi)));go_roundg k1
      case measure => have:=HK1.out;omega
      case rel => exact ⟨(t107),(wrap64 (x5_1 + 1)),(by first | rfl | (simp;done) | (simp [*];done)),(by first | rfl | (simp;done) | (simp [*];done)),H',⟨by have:=HK1.out;omega⟩,⟨Up.Bup HB⟩⟩
    ·(rw [if_neg c4] at H);have c4b0:=decide_eq_false c4;clear c4;obtain rfl:=Option.some.inj H;go_wp2;go_ret;exact Up.e1 (Up.Bup HB)

/-! ### laws_toStringS: function 117 -/
def laws_toStringS.l0 : Nat → List ByteArray → List ByteArray → Int → Option (List ByteArray)
 | 0,_,_,_ => none
 | k + 1,x0,x3,x4 => if x4 < (x0.length : Int) then (if 0 ≤ x4 then (if x4 < (x3.length : Int) then (laws_toStringS.l0 k x0 (x3.set (x4 : Int).toNat (rdOf ByteArray.empty x0 x4)) (wrap64 (x4 + 1))) else (none)) else (none)) else (some x3)
def laws_toStringS.f (k : Nat) (l0 : List ByteArray) : Option (List ByteArray):=if 0 ≤ (l0.length : Int) then (if ((l0.length : Int) : Int).toNat ≤ 17592186044416 then (laws_toStringS.l0 k l0 (List.replicate ((l0.length : Int) : Int).toNat (⟨#[]⟩ : ByteArray)) 0) else (none)) else (none)
theorem laws_toStringS.mono_l : ∀ k,(∀ y0 y1 y2,LeO (laws_toStringS.l0 k y0 y1 y2) (laws_toStringS.l0 (k + 1) y0 y1 y2))
 | 0 => fun _ _ _ r h => by simp [laws_toStringS.l0] at h
 | k + 1 => by
  have ih0:=laws_toStringS.mono_l k
  ·intro y0 y1 y2;unfold laws_toStringS.l0;repeat' first
   | (with_reducible exact ih0 _ _ _)
   | (with_reducible exact LeO.refl _)
   | (with_reducible exact LeO.none _)
   | (with_reducible refine LeO.ite ?_ ?_)
   | (with_reducible refine LeO.bind ?_ (fun _ => ?_))
   | exact ih0 _ _ _
   | exact LeO.none _
   | refine LeO.ite ?_ ?_
   | refine LeO.bind ?_ (fun _ => ?_)
theorem laws_toStringS.mono : ∀ a0 k,LeO (laws_toStringS.f k a0) (laws_toStringS.f (k + 1) a0):=by
 intro a0 k;have ih0:=laws_toStringS.mono_l k;unfold laws_toStringS.f
 repeat' first
   | (with_reducible exact ih0 _ _ _)
   | (with_reducible exact LeO.refl _)
   | (with_reducible exact LeO.none _)
   | (with_reducible refine LeO.ite ?_ ?_)
   | (with_reducible refine LeO.bind ?_ (fun _ => ?_))
   | exact ih0 _ _ _
   | exact LeO.none _
   | refine LeO.ite ?_ ?_
   | refine LeO.bind ?_ (fun _ => ?_)
set_option maxHeartbeats 8000000 in
set_option maxRecDepth 100000 in
theorem laws_toStringS.calls (k : Nat) (A0 : Option Addr) (c0 : Nat) (l0 : List ByteArray) (r : List ByteArray) (w : World) (hr0 : Kd.C Kd.string w A0 l0.length l0) (hc0 : l0.length ≤ c0) (h : laws_toStringS.f k l0 = some r) :
  Calls Try.prog 117 #[.slice A0 l0.length c0] w fun e w' => ∃ v0_ : Value,e = .returned (v0_) ∧ Kd.R Kd.string 9 w' w.heap.size (fun _ => True) v0_ r ∧ Below w.heap.size w w':=by
 (have HR0:=Aside0.mk hr0;have HC0:=Aside0.mk hc0;clear hr0 hc0;have HB:=Aside0.mk (Below.refl w.heap.size w);have H : (if 0 ≤ (l0.length : Int) then (if ((l0.length : Int) : Int).toNat ≤ 17592186044416 then (laws_toStringS.l0 k l0 (List.replicate ((l0.length : Int) : Int).toNat (⟨#[]⟩ : ByteArray)) 0) else (none)) else (none)) = some r:=h;clear h;replace H:=Up.ip H;obtain ⟨c2,H⟩:=H;have c2b0:=eq_true c2;have c2b1:=decide_eq_true c2;clear c2;replace H:=Up.ip H;obtain ⟨c3,H⟩:=H;have c3b0:=eq_true c3;have c3b1:=decide_eq_true c3;clear c3;obtain ⟨y108,hy108⟩ : ∃ y_ : List ByteArray,y_ = (List.replicate ((l0.length : Int) : Int).toNat (⟨#[]⟩ : ByteArray)):=⟨_,rfl⟩);(replace H : (laws_toStringS.l0 k l0 y108 0) = some r:=by first | (rw [hy108];with_reducible exact H) | (have H2_:=(Option.bind_some _ _).symm.trans H;rw [hy108];with_reducible exact H2_) | (have H2_:=(Option.bind_some _ _).symm.trans H;with_reducible exact H2_) | with_reducible exact H | (rw [hy108];exact H) | exact H);have Ny108:=Aside0.mk hy108;clear hy108;have H':=Aside0.mk H;clear H;go_enter Try.func117,Try.ntmps117;go_wp2_with (first | ((with_reducible refine gate_dst (N:=7) rfl ?_);refine Kd.R_make Kd.string _ 9 rfl (N:=7) rfl 111 _ _ rfl (l0.length : Int) rfl rfl Try.underlying111 (.string ⟨#[]⟩) 16 info9 rfl (by decide) (by omega) (⟨#[]⟩ : ByteArray) (ok:=fun _ => True) (okp:=fun _ => True) rfl (fun _ hk => hk) trivial (Up.od) (Nat.le_trans (Nat.mul_le_mul_right _ (Up.od : (l0.length : Int).toNat ≤ 17592186044416)) (by omega)) (Below.refl _ _) (Nat.le_refl _) ?_;intro v109 w4 ho5 hb hg_ hnew_;clear hg_ hnew_;(first | rw [← Ny108.out] at ho5 | (simp only [Int.reduceToNat] at ho5;rw [← Ny108.out] at ho5));have HO110:=Aside0.mk (Kd.R_lower ho5 (below_size (Up.Bup HB)));replace HB:=Up.BB HB hb;clear hb ho5));go_loopg [4] k (fun kq v4 w' => ∃ (x3_1 : List ByteArray) (x4_1 : Int),v4 = .int .i64 x4_1 ∧ Aside0 (laws_toStringS.l0 kq l0 x3_1 x4_1 = some r) ∧ Aside0 (kq ≤ k) ∧ Aside0 (Kd.R Kd.string 9 w' w.heap.size (fun _ => True) v109 x3_1) ∧ Aside0 (Below w.heap.size w w'))
 case atStart => exact ⟨(y108),(0),(by first | rfl | (simp;done) | (simp [*];done)),H',⟨Nat.le_refl _⟩,⟨Up.Rup HO110⟩,⟨Up.Bup HB⟩⟩
 case round =>
  clear H';(try clear c1);(try clear c2);(try clear c2b0);(try clear c2b1);(try clear p2);(try clear c3);(try clear c3b0);(try clear c3b1);obtain ⟨x3_1,x4_1,rfl,HA,HK1,HO_3,HB⟩:=hrel;cases gk with
  | zero => exact absurd HA.out (by simp [laws_toStringS.l0])
  | succ k1 =>
   have H:=HA.out;clear HA;(simp only [laws_toStringS.l0] at H);by_cases c6 : x4_1 < (l0.length : Int)
   ·(rw [if_pos c6] at H);(have c6b0:=decide_eq_true c6;clear c6;replace H:=Up.ip H;obtain ⟨c7,H⟩:=H;have c7b0:=decide_eq_true c7;clear c7;replace H:=Up.ip H;obtain ⟨c8,H⟩:=H;have c8b0:=decide_eq_true c8;clear c8;obtain ⟨y112,hy112⟩ : ∃ y_ : List ByteArray,y_ = (x3_1.set (x4_1 : Int).toNat (rdOf ByteArray.empty l0 x4_1)):=⟨_,rfl⟩);(replace H : (laws_toStringS.l0 k1 l0 y112 (wrap64 (x4_1 + 1))) = some r:=by first | (rw [hy112];with_reducible exact H) | (have H2_:=(Option.bind_some _ _).symm.trans H;rw [hy112];with_reducible exact H2_) | (have H2_:=(Option.bind_some _ _).symm.trans H;with_reducible exact H2_) | with_reducible exact H | (rw [hy112];exact H) | exact H);have Ny112:=Aside0.mk hy112;clear hy112;have H':=Aside0.mk H;clear H;have p111 : 0 ≤ (x4_1 : Int):=Up.od;have q111 : x4_1 < (l0.length : Int):=Up.od;obtain ⟨ad111,e111,hx111_0⟩:=Kd.at_string HR0.out x4_1 p111 q111;cases e111;replace hx111_0:=Up.hc HB hx111_0;replace p111:=eq_true p111;replace q111:=eq_true q111;have p9 : 0 ≤ (x4_1 : Int):=Up.od;have q9 : (x4_1 : Int) < ((x3_1.length : Int) : Int):=Up.od;obtain ⟨go9,co9,eo9,gb9,gl9,cl9,HG9⟩:=Kd.R_form HO_3.out (by omega);(first | cases eo9 | (injection eo9 with ea_ en_ ec_;(first | subst ea_ | (injection ea_ with ea_;subst ea_));subst ec_;clear en_));have GB9:=Aside0.mk gb9;have GG9:=Aside0.mk HG9;clear gb9 gl9 HG9;obtain ⟨hx9_0,hf9_0⟩:=Kd.R_celln (⟨#[]⟩ : ByteArray) HO_3.out (x4_1 : Int) p9 q9;replace p9:=eq_true p9;replace q9:=eq_true q9;have HP10:=Kd.R_putg HO_3.out (x4_1 : Int) (rdOf ByteArray.empty l0 x4_1);go_wp2_with (first | ((with_reducible refine gate_store (t:=9) (p:=20) rfl ?_);refine store_event (t:=9) (p:=20) (v:=?vo_w11) (w1:=(wr.setCell ⟨go9,(x4_1 : Int).toNat,none⟩ (.string (rdOf ByteArray.empty l0 x4_1)))) ?hg ?ho ?hn ?hr ?_;(case ho => rfl);(case hg => rfl);(case hn => rfl);(case hr => first | (go_simp;done) | (go_simp;rfl));intro w11 hw;have hg : wr.grownBy w11 (some go9):=(by rw [hw];exact HP10.2);have hp_ : Kd.R Kd.string 9 w11 w.heap.size (fun _ => True) (.slice (some ⟨go9,0,none⟩) x3_1.length co9) y112:=(by rw [hw,Ny112.out];exact HP10.1);clear HP10;replace HO_3:=Aside0.mk (hp_);replace HB:=Aside0.mk ((by rw [hw];exact below_set (HB.out) GB9.out : Below w.heap.size w w11));clear hg hw hp_));go_roundg k1
    case measure => have:=HK1.out;omega
    case rel => exact ⟨(y112),(wrap64 (x4_1 + 1)),(by first | rfl | (simp;done) | (simp [*];done)),H',⟨by have:=HK1.out;omega⟩,⟨Up.Rup HO_3⟩,⟨Up.Bup HB⟩⟩
   ·(rw [if_neg c6] at H);have c6b0:=decide_eq_false c6;clear c6;obtain rfl:=Option.some.inj H;go_wp2;go_ret;exact ⟨_,by first | rfl | (simp [errW_none,errW_some] <;> rfl) | (simp [*,errW_none,errW_some] <;> rfl),Up.Rup HO_3,Up.Bup HB⟩

/-! ### laws_toRecord: function 98 -/
def laws_toRecord.f (k : Nat) (a0_0 : Int) (l0_1 : List ByteArray) : Option (Int × List ByteArray):=(laws_toStringS.f k l0_1).bind fun t116 => (some (a0_0,t116))
theorem laws_toRecord.mono : ∀ a0 a1 k,LeO (laws_toRecord.f k a0 a1) (laws_toRecord.f (k + 1) a0 a1):=by
 intro a0 a1 k;unfold laws_toRecord.f
 repeat' first
   | (with_reducible exact laws_toStringS.mono _ _)
   | (with_reducible exact LeO.refl _)
   | (with_reducible exact LeO.none _)
   | (with_reducible refine LeO.ite ?_ ?_)
   | (with_reducible refine LeO.bind ?_ (fun _ => ?_))
   | exact laws_toStringS.mono _ _
   | exact LeO.none _
   | refine LeO.ite ?_ ?_
   | refine LeO.bind ?_ (fun _ => ?_)
set_option maxHeartbeats 8000000 in
set_option maxRecDepth 100000 in
theorem laws_toRecord.calls (k : Nat) (a0_0 : Int) (A0_1 : Option Addr) (c0_1 : Nat) (l0_1 : List ByteArray) (r1 : Int) (r2 : List ByteArray) (w : World) (hr0_1 : Kd.C Kd.string w A0_1 l0_1.length l0_1) (hc0_1 : l0_1.length ≤ c0_1) (h : laws_toRecord.f k a0_0 l0_1 = some (r1,r2)) :
  Calls Try.prog 98 #[.agg #[.int .i64 a0_0,.slice A0_1 l0_1.length c0_1]] w fun e w' => ∃ v1_ : Value,e = .returned (.agg #[.int .i64 r1,v1_]) ∧ Kd.R Kd.string 9 w' w.heap.size (fun _ => True) v1_ r2 ∧ Below w.heap.size w w':=by
 have hu124:=Try.underlying124;have hu113:=Try.underlying113;have HR0_1:=Aside0.mk hr0_1;have HC0_1:=Aside0.mk hc0_1;clear hr0_1 hc0_1;have HB:=Aside0.mk (Below.refl w.heap.size w);have H : ((laws_toStringS.f k l0_1).bind fun t116 => (some (a0_0,t116))) = some (r1,r2):=h;clear h;replace H:=Up.bd H;obtain ⟨t116,A2,H⟩:=H;(try dsimp only at H);(simp only [Option.some.injEq,Prod.mk.injEq] at H);obtain ⟨rfl,rfl⟩:=H;go_enter Try.func98,Try.ntmps98;go_wp2_with (first | ((with_reducible refine gate_dst (N:=1) rfl ?_);refine Up.bx 1 124 #[.int .i64 a0_0,.slice A0_1 l0_1.length c0_1] ?_;intro gb113 hg w3 hbox hb;have BK113:=Aside0.mk (hbox);have GW113:=Up.gw hg HB;have GE113:=Up.gw hg HB;replace HB:=Up.BB HB hb;clear hb hbox hg) | ((with_reducible refine gate_dst (N:=2) rfl ?_);refine Up.bx 2 113 #[.int .i64 0,.slice none 0 0] ?_;intro gb114 hg w4 hbox hb;have BK114:=Aside0.mk (hbox);have GW114:=Up.gw hg HB;have GE114:=Up.gw hg HB;replace HB:=Aside0.mk (below_step (Up.Bx HB) hb);have NB113_114:=Up.nl hg BK113;have NB114_113:=Up.ng hg BK113;replace BK113:=Up.KB BK113 hb;clear hb hbox hg) | ((with_reducible refine gate_dst (N:=3) rfl ?_);refine Up.bx 3 113 #[.int .i64 0,.slice none 0 0] ?_;intro gb115 hg w5 hbox hb;have BK115:=Aside0.mk (hbox);have GW115:=Up.gw hg HB;have GE115:=Up.gw hg HB;replace HB:=Aside0.mk (below_step (Up.Bx HB) hb);have NB113_115:=Up.nl hg BK113;have NB115_113:=Up.ng hg BK113;replace BK113:=Up.KB BK113 hb;have NB114_115:=Up.nl hg BK114;have NB115_114:=Up.ng hg BK114;replace BK114:=Up.KB BK114 hb;clear hb hbox hg;have hnb6:=NB113_114.out;have hnc6:=NB114_113.out;have hnb7:=NB113_115.out;have hnc7:=NB115_113.out;obtain ⟨hcz8_0,hcz8_1,hfz8_0,hfz8_1⟩:=Up.d2 BK113;have hnb9:=NB115_114.out;have hnc9:=NB114_115.out;obtain ⟨hcz10_0,hcz10_1,hfz10_0,hfz10_1⟩:=Up.d2 BK115) | ((with_reducible refine gate_callee (f:=117) rfl ?_);refine Up.gl (some 9) Try.func117 #[.slice A0_1 l0_1.length c0_1] ?_;(with_reducible refine (laws_toStringS.calls k _ _ l0_1 t116 _ ?side1 ?side2 A2.out).mono ?_);(case side1 => exact Kd.C_below HR0_1.out (Up.Bx HB));(case side2 => exact HC0_1.out);rintro e w11 ⟨v117,rfl,ho0,hb⟩;refine ⟨_,rfl,?_⟩;have HO118:=Aside0.mk (Kd.R_lower ho0 (below_size (Up.Bx HB)));replace BK113:=Aside0.mk (blk_below (g:=gb113) (o:=.cells #[.int .i64 a0_0,.slice A0_1 l0_1.length c0_1] 124 (0,0)) (Up.Kx BK113) hb);replace BK114:=Aside0.mk (blk_below (g:=gb114) (o:=.cells #[.int .i64 0,.slice none 0 0] 113 (0,0)) (Up.Kx BK114) hb);replace BK115:=Aside0.mk (blk_below (g:=gb115) (o:=.cells #[.int .i64 a0_0,.slice none 0 0] 113 (0,0)) (Up.Kx BK115) hb);replace HB:=Aside0.mk (below_step (Up.Bx HB) hb);(try clear hb);(try clear hb2);(try clear hk);(try clear hi);(try clear ho0);obtain ⟨Ao12,co12,eo12⟩:=Kd.R_slice HO118.out;subst eo12;obtain ⟨hcz13_0,hcz13_1,hfz13_0,hfz13_1⟩:=Up.d2 BK115;obtain ⟨hcz14_0,hcz14_1,hfz14_0,hfz14_1⟩:=Up.d2 BK114));refine bodyPost_ret (results_cell_row rfl _ _ gb114 113 #[.int .i64 a0_0,.slice Ao12 t116.length co12] (0,0) _ rfl (Up.Kx BK114) Try.underlying113 rfl (by kernel_rfl)) rfl ?_;exact ⟨_,by first | rfl | (simp [errW_none,errW_some] <;> rfl) | (simp [*,errW_none,errW_some] <;> rfl),by (with_reducible repeat (first | apply Kd.R_alloc | apply Kd.R_drewN | apply Kd.R_drew));exact Kd.R_mono (Kd.R_far (p:=⟨gb114,1,none⟩) (Kd.R_far (p:=⟨gb114,0,none⟩) (Kd.R_far (p:=⟨gb115,1,none⟩) (Kd.R_types (Kd.R_types HO118.out BK115.out (by decide)) BK114.out (by decide)) (fun _ hk => hk.1.2) (.slice Ao12 t116.length co12)) (fun _ hk => hk.2) (.int .i64 a0_0)) (fun _ hk => hk.2) (.slice Ao12 t116.length co12)) (fun _ hk => trivial),Up.Bx HB⟩

/-! ### laws_toRecordS: function 58 -/
def laws_toRecordS.l0 : Nat → List (S124) → List (S113) → Int → Option ((List (S113)))
 | 0,_,_,_ => none
 | k + 1,x0,x3,x4 => if x4 < (x0.length : Int) then (if 0 ≤ x4 then ((laws_toRecord.f k ((rd_T124 x0 x4).f0) ((rd_T124 x0 x4).f1)).bind fun bt123 => (if x4 < (x3.length : Int) then (laws_toRecordS.l0 k x0 (x3.set (x4 : Int).toNat (⟨bt123.1,bt123.2⟩ : S113)) (wrap64 (x4 + 1))) else (none))) else (none)) else (some x3)
def laws_toRecordS.f (k : Nat) (l0 : List (S124)) : Option ((List (S113))):=if 0 ≤ (l0.length : Int) then (if ((l0.length : Int) : Int).toNat ≤ 8796093022208 then (laws_toRecordS.l0 k l0 (List.replicate ((l0.length : Int) : Int).toNat z113) 0) else (none)) else (none)
theorem laws_toRecordS.mono_l : ∀ k,(∀ y0 y1 y2,LeO (laws_toRecordS.l0 k y0 y1 y2) (laws_toRecordS.l0 (k + 1) y0 y1 y2))
 | 0 => fun _ _ _ r h => by simp [laws_toRecordS.l0] at h
 | k + 1 => by
  have ih0:=laws_toRecordS.mono_l k
  ·intro y0 y1 y2;unfold laws_toRecordS.l0;repeat' first
   | (with_reducible exact ih0 _ _ _)
   | (with_reducible exact laws_toRecord.mono _ _ _)
   | (with_reducible exact LeO.refl _)
   | (with_reducible exact LeO.none _)
   | (with_reducible refine LeO.ite ?_ ?_)
   | (with_reducible refine LeO.bind ?_ (fun _ => ?_))
   | exact ih0 _ _ _
   | exact laws_toRecord.mono _ _ _
   | exact LeO.none _
   | refine LeO.ite ?_ ?_
   | refine LeO.bind ?_ (fun _ => ?_)
theorem laws_toRecordS.mono : ∀ a0 k,LeO (laws_toRecordS.f k a0) (laws_toRecordS.f (k + 1) a0):=by
 intro a0 k;have ih0:=laws_toRecordS.mono_l k;unfold laws_toRecordS.f
 repeat' first
   | (with_reducible exact ih0 _ _ _)
   | (with_reducible exact laws_toRecord.mono _ _ _)
   | (with_reducible exact LeO.refl _)
   | (with_reducible exact LeO.none _)
   | (with_reducible refine LeO.ite ?_ ?_)
   | (with_reducible refine LeO.bind ?_ (fun _ => ?_))
   | exact ih0 _ _ _
   | exact laws_toRecord.mono _ _ _
   | exact LeO.none _
   | refine LeO.ite ?_ ?_
   | refine LeO.bind ?_ (fun _ => ?_)
set_option maxHeartbeats 8000000 in
set_option maxRecDepth 100000 in
theorem laws_toRecordS.calls (k : Nat) (A0 : Option Addr) (c0 : Nat) (l0 : List (S124)) (r : List (S113)) (w : World) (hr0 : Kd.C k124 w A0 l0.length l0) (hc0 : l0.length ≤ c0) (h : laws_toRecordS.f k l0 = some r) :
  Calls Try.prog 58 #[.slice A0 l0.length c0] w fun e w' => ∃ v0_ : Value,e = .returned (v0_) ∧ Kd.S k113 113 w' w.heap.size (fun _ => True) v0_ r ∧ Below w.heap.size w w':=by
 (have hu124:=Try.underlying124;have hu113:=Try.underlying113;have HR0:=Aside0.mk hr0;have HC0:=Aside0.mk hc0;clear hr0 hc0;have HB:=Aside0.mk (Below.refl w.heap.size w);have H : (if 0 ≤ (l0.length : Int) then (if ((l0.length : Int) : Int).toNat ≤ 8796093022208 then (laws_toRecordS.l0 k l0 (List.replicate ((l0.length : Int) : Int).toNat z113) 0) else (none)) else (none)) = some r:=h;clear h;replace H:=Up.ip H;obtain ⟨c2,H⟩:=H;have c2b0:=eq_true c2;have c2b1:=decide_eq_true c2;clear c2;replace H:=Up.ip H;obtain ⟨c3,H⟩:=H;have c3b0:=eq_true c3;have c3b1:=decide_eq_true c3;clear c3;obtain ⟨y119,hy119⟩ : ∃ y_ : List (S113),y_ = (List.replicate ((l0.length : Int) : Int).toNat z113):=⟨_,rfl⟩);(replace H : (laws_toRecordS.l0 k l0 y119 0) = some r:=by first | (rw [hy119];with_reducible exact H) | (have H2_:=(Option.bind_some _ _).symm.trans H;rw [hy119];with_reducible exact H2_) | (have H2_:=(Option.bind_some _ _).symm.trans H;with_reducible exact H2_) | with_reducible exact H | (rw [hy119];exact H) | exact H);have Ny119:=Aside0.mk hy119;clear hy119;have H':=Aside0.mk H;clear H;go_enter Try.func58,Try.ntmps58;go_wp2_with (first | ((with_reducible refine gate_dst (N:=7) rfl ?_);refine Kd.S_make k113 _ 113 rfl (N:=7) rfl 82 _ _ rfl (l0.length : Int) rfl rfl Try.underlying82 (.agg #[(.int .i64 0),(.slice none 0 0)]) 32 info113 rfl (by decide) (by omega) z113 (ok:=fun _ => True) (okp:=fun _ => True) (k113_mkM _ _ _ z113 (Kd.R_nil _ _ _ _ _)) (fun _ hk => hk) trivial (Up.od) (Nat.le_trans (Nat.mul_le_mul_right _ (Up.od : (l0.length : Int).toNat ≤ 8796093022208)) (by omega)) (Below.refl _ _) (Nat.le_refl _) ?_;intro v120 w4 ho5 hb hg_ hnew_;clear hg_ hnew_;(first | rw [← Ny119.out] at ho5 | (simp only [Int.reduceToNat] at ho5;rw [← Ny119.out] at ho5));have HO121:=Aside0.mk (Kd.S_lower ho5 (below_size (Up.Bup HB)));replace HB:=Up.BB HB hb;clear hb ho5));go_loopg [4] k (fun kq v4 w' => ∃ (x3_1 : List (S113)) (x4_1 : Int),v4 = .int .i64 x4_1 ∧ Aside0 (laws_toRecordS.l0 kq l0 x3_1 x4_1 = some r) ∧ Aside0 (kq ≤ k) ∧ Aside0 (Kd.S k113 113 w' w.heap.size (fun _ => True) v120 x3_1) ∧ Aside0 (Below w.heap.size w w'))
 case atStart => exact ⟨(y119),(0),(by first | rfl | (simp;done) | (simp [*];done)),H',⟨Nat.le_refl _⟩,⟨Up.Sup HO121⟩,⟨Up.Bup HB⟩⟩
 case round =>
  clear H';(try clear c2);(try clear c2b0);(try clear c2b1);(try clear p2);(try clear c3);(try clear c3b0);(try clear c3b1);(try clear c5);obtain ⟨x3_1,x4_1,rfl,HA,HK1,HO_3,HB⟩:=hrel;cases gk with
  | zero => exact absurd HA.out (by simp [laws_toRecordS.l0])
  | succ k1 =>
   have H:=HA.out;clear HA;(simp only [laws_toRecordS.l0] at H);by_cases c6 : x4_1 < (l0.length : Int)
   ·(rw [if_pos c6] at H);have c6b0:=decide_eq_true c6;clear c6;replace H:=Up.ip H;obtain ⟨c7,H⟩:=H;have c7b0:=decide_eq_true c7;clear c7;replace H:=Up.bd H;obtain ⟨⟨t123,t124⟩,A8,H⟩:=H;(try dsimp only at H);(replace H:=Up.ip H;obtain ⟨c9,H⟩:=H;have c9b0:=decide_eq_true c9;clear c9;obtain ⟨y127,hy127⟩ : ∃ y_ : List (S113),y_ = (x3_1.set (x4_1 : Int).toNat (⟨t123,t124⟩ : S113)):=⟨_,rfl⟩);(replace H : (laws_toRecordS.l0 k1 l0 y127 (wrap64 (x4_1 + 1))) = some r:=by first | (rw [hy127];with_reducible exact H) | (have H2_:=(Option.bind_some _ _).symm.trans H;rw [hy127];with_reducible exact H2_) | (have H2_:=(Option.bind_some _ _).symm.trans H;with_reducible exact H2_) | with_reducible exact H | (rw [hy127];exact H) | exact H);have Ny127:=Aside0.mk hy127;clear hy127;have H':=Aside0.mk H;clear H;have p122 : 0 ≤ (x4_1 : Int):=Up.od;have q122 : x4_1 < (l0.length : Int):=Up.od;obtain ⟨ad122,A122_1,c122_1,e122,hx122_0,hx122_1,hl122_1,hi122_1⟩:=at_T124 HR0.out x4_1 p122 q122;cases e122;replace hx122_0:=Up.hc HB hx122_0;replace hx122_1:=Up.hc HB hx122_1;have HR122_1:=Aside0.mk hi122_1;have HC122_1:=Aside0.mk hl122_1;clear hi122_1 hl122_1;replace p122:=eq_true p122;replace q122:=eq_true q122;go_wp2_with (first | ((with_reducible refine gate_callee (f:=98) rfl ?_);refine Up.gl (some 20) Try.func98 #[.agg #[.int .i64 ((rd_T124 l0 x4_1).f0),.slice A122_1 ((rd_T124 l0 x4_1).f1).length c122_1]] ?_;(with_reducible refine (laws_toRecord.calls k1 ((rd_T124 l0 x4_1).f0) _ _ ((rd_T124 l0 x4_1).f1) t123 t124 _ ?side1 ?side2 A8.out).mono ?_);(case side1 => exact Up.Cx HR122_1 HB);(case side2 => exact HC122_1.out);rintro e w11 ⟨v125,rfl,ho0,hb⟩;refine ⟨_,rfl,?_⟩;replace HO_3:=Aside0.mk (Kd.S_elder' (Up.Sup HO_3) (Kd.R_base ho0) hb);have HO126:=Aside0.mk (Kd.R_lower ho0 (below_size (Up.Bup HB)));replace HB:=Up.BB HB hb;(try clear hb);(try clear hb2);(try clear hk);(try clear hi);(try clear ho0);(have hsvv125_ : ∀ (a_ : Addr) (m_ : Mode) (W_ : World),(Go.store a_ v125 m_).run Try.prog W_ = stored Try.prog W_ a_ v125 m_:=fun a_ m_ W_ => run_store _ W_ a_ _ m_ (by first | (obtain ⟨_,_,e_⟩:=Kd.R_slice HO126.out;rw [e_];rfl) | (obtain ⟨_,_,e_⟩:=Kd.R_slice (Kd.S_R HO126.out);rw [e_];rfl)));(have hcvv125_ : (v125 : Value).cells = #[v125]:=(by first | (obtain ⟨_,_,e_⟩:=Kd.R_slice HO126.out;rw [e_];rfl) | (obtain ⟨_,_,e_⟩:=Kd.R_slice (Kd.S_R HO126.out);rw [e_];rfl)));have p10 : 0 ≤ (x4_1 : Int):=Up.od;have q10 : (x4_1 : Int) < ((x3_1.length : Int) : Int):=Up.od;obtain ⟨go10,co10,eo10,gb10,gl10,cl10,HG10⟩:=Kd.S_form HO_3.out (by omega);(first | cases eo10 | (injection eo10 with ea_ en_ ec_;(first | subst ea_ | (injection ea_ with ea_;subst ea_));subst ec_;clear en_));have GB10:=Aside0.mk gb10;have GG10:=Aside0.mk HG10;clear gb10 gl10 HG10;obtain ⟨_,ce10,hcl10,hM10,hcc10,hfr10,_,_⟩:=Kd.S_elem HO_3.out z113 (x4_1 : Int) p10 q10;obtain ⟨ve10_1,rfl,ge10_1⟩:=k113_openM hM10;have hx10_0 : w11.cell? ⟨go10,(x4_1 : Int).toNat * 2,none⟩ = some (.int .i64 ((rd_T113 x3_1 x4_1).f0)):=hcc10 0 _ rfl;have hx10_1 : w11.cell? ⟨go10,(x4_1 : Int).toNat * 2 + 1,none⟩ = some (ve10_1):=hcc10 1 _ rfl;have hf10_0 : w11.frozen? ⟨go10,(x4_1 : Int).toNat * 2,none⟩ = false:=hfr10 0;have hf10_1 : w11.frozen? ⟨go10,(x4_1 : Int).toNat * 2 + 1,none⟩ = false:=hfr10 1;clear hcl10 hcc10 hfr10 hM10;replace p10:=eq_true p10;replace q10:=eq_true q10;have n_:=Aside0.mk (Kd.S_mono (ok':=(fun k_ => some k_ ≠ (v125 : Value).ownBlock)) HO_3.out (fun k_ hk => hk.2));clear HO_3;have HO_3:=n_;clear n_;have HX12:=Aside0.mk (show Kd.S k113 113 w11 w.heap.size (fun k_ => ((fun _ => True)) k_ ∧ ¬ ((fun k_ => some k_ = (v125 : Value).ownBlock)) k_) (.slice (some ⟨go10,0,none⟩) x3_1.length co10) x3_1 from (Up.Sq (Kd.S_mono HO_3.out (fun k_ hk => ⟨trivial,fun e_ => hk e_⟩))));obtain ⟨oki12,ce12,hcl12,hM12,hcc12,hfr12,hoki12,hH12⟩:=Kd.S_elem HX12.out z113 (x4_1 : Int) (Up.od) (by have h_ : (x4_1 : Int) < ((x3_1.length : Int) : Int):=Up.od;first | exact h_ | (have e_:=(Kd.S_reads' HO_3.out).1;omega) | simpa using h_);obtain ⟨ve12_1,rfl,ge12_1⟩:=k113_openM hM12;have HP12:=Kd.S_seg hH12 (Up.od) (by have h_ : (x4_1 : Int) < ((x3_1.length : Int) : Int):=Up.od;first | exact h_ | (have e_:=(Kd.S_reads' HO_3.out).1;omega) | simpa using h_) (seg:=[.int .i64 t123,v125]) (j:=0) (show 2 ≤ 2 from by decide) (x':=(⟨t123,t124⟩ : S113)) (k113_mkM _ _ _ (⟨t123,t124⟩ : S113) (Kd.R_mono (Kd.R_tight rfl (Kd.R_mono (ok':=fun k_ => ((fun _ => True)) k_ ∧ k_ ≠ go10) (Kd.R_apart' (HO126.out) (Kd.S_typed HO_3.out) (by decide)) (fun k_ hk => ⟨trivial,fun e_ => (hk.2) (by rw [e_];rfl)⟩))) (fun _ h_ => Or.inr (h_)))) (fun _ hk => hk) (fun k_ hk_ => ((Kd.R_mono (ok':=fun k_ => ((fun _ => True)) k_ ∧ k_ ≠ go10) (Kd.R_apart' (HO126.out) (Kd.S_typed HO_3.out) (by decide)) (fun k_ hk => ⟨trivial,fun e_ => (hk.2) (by rw [e_];rfl)⟩))).1 k_ hk_.symm);have hx12_0:=hcc12 0 _ rfl;(try simp only [show (k113).sz = 2 from rfl,Nat.mul_one,Nat.add_zero] at hx12_0);have hf12_0:=hfr12 0;(try simp only [show (k113).sz = 2 from rfl,Nat.mul_one,Nat.add_zero] at hf12_0);have hx12_1:=hcc12 1 _ rfl;(try simp only [show (k113).sz = 2 from rfl,Nat.mul_one,Nat.add_zero] at hx12_1);have hf12_1:=hfr12 1;(try simp only [show (k113).sz = 2 from rfl,Nat.mul_one,Nat.add_zero] at hf12_1);clear hcl12 hcc12 hfr12 hM12 hoki12 hH12) | ((with_reducible refine gate_store (t:=113) (p:=21) rfl ?_);refine store_event (t:=113) (p:=21) (v:=?vo_w13) (w1:=((w11.setCell ⟨go10,(x4_1 : Int).toNat * 2,none⟩ (.int .i64 t123)).setCell ⟨go10,(x4_1 : Int).toNat * 2 + 1,none⟩ (v125))) ?hg ?ho ?hn ?hr ?_;(case ho => rfl);(case hg => rfl);(case hn => rfl);(case hr => first | (go_simp;done) | (go_simp;rfl));intro w13 hw;have hg : w11.grownBy w13 (some go10):=(by rw [hw];exact HP12.2);have hp_ : Kd.S k113 113 w13 w.heap.size (fun _ => True) (.slice (some ⟨go10,0,none⟩) x3_1.length co10) y127:=(by rw [hw,Ny127.out];exact HP12.1);clear HP12;replace HO_3:=Aside0.mk (hp_);replace HB:=Aside0.mk ((by rw [hw];exact below_set (below_set (HB.out) GB10.out) GB10.out : Below w.heap.size w w13));clear HO126 hg hw hp_));go_roundg k1
    case measure => have:=HK1.out;omega
    case rel => exact ⟨(y127),(wrap64 (x4_1 + 1)),(by first | rfl | (simp;done) | (simp [*];done)),H',⟨by have:=HK1.out;omega⟩,⟨Up.Sup HO_3⟩,⟨Up.Bup HB⟩⟩
   ·(rw [if_neg c6] at H);have c6b0:=decide_eq_false c6;clear c6;obtain rfl:=Option.some.inj H;go_wp2;go_ret;exact ⟨_,by first | rfl | (simp [errW_none,errW_some] <;> rfl) | (simp [*,errW_none,errW_some] <;> rfl),Up.Sup HO_3,Up.Bup HB⟩

/-! ### laws_toRecordSS: function 21 -/
def laws_toRecordSS.l0 : Nat → List (List (S124)) → List (List (S113)) → Int → Option ((List (List (S113))))
 | 0,_,_,_ => none
 | k + 1,x0,x3,x4 => if x4 < (x0.length : Int) then (if 0 ≤ x4 then ((laws_toRecordS.f k (rd_L4 x0 x4)).bind fun t132 => (if x4 < (x3.length : Int) then (laws_toRecordSS.l0 k x0 (x3.set (x4 : Int).toNat t132) (wrap64 (x4 + 1))) else (none))) else (none)) else (some x3)
def laws_toRecordSS.f (k : Nat) (l0 : List (List (S124))) : Option ((List (List (S113)))):=if 0 ≤ (l0.length : Int) then (if ((l0.length : Int) : Int).toNat ≤ 11728124029610 then (laws_toRecordSS.l0 k l0 (List.replicate ((l0.length : Int) : Int).toNat []) 0) else (none)) else (none)
theorem laws_toRecordSS.mono_l : ∀ k,(∀ y0 y1 y2,LeO (laws_toRecordSS.l0 k y0 y1 y2) (laws_toRecordSS.l0 (k + 1) y0 y1 y2))
 | 0 => fun _ _ _ r h => by simp [laws_toRecordSS.l0] at h
 | k + 1 => by
  have ih0:=laws_toRecordSS.mono_l k
  ·intro y0 y1 y2;unfold laws_toRecordSS.l0;repeat' first
   | (with_reducible exact ih0 _ _ _)
   | (with_reducible exact laws_toRecordS.mono _ _)
   | (with_reducible exact LeO.refl _)
   | (with_reducible exact LeO.none _)
   | (with_reducible refine LeO.ite ?_ ?_)
   | (with_reducible refine LeO.bind ?_ (fun _ => ?_))
   | exact ih0 _ _ _
   | exact laws_toRecordS.mono _ _
   | exact LeO.none _
   | refine LeO.ite ?_ ?_
   | refine LeO.bind ?_ (fun _ => ?_)
theorem laws_toRecordSS.mono : ∀ a0 k,LeO (laws_toRecordSS.f k a0) (laws_toRecordSS.f (k + 1) a0):=by
 intro a0 k;have ih0:=laws_toRecordSS.mono_l k;unfold laws_toRecordSS.f
 repeat' first
   | (with_reducible exact ih0 _ _ _)
   | (with_reducible exact laws_toRecordS.mono _ _)
   | (with_reducible exact LeO.refl _)
   | (with_reducible exact LeO.none _)
   | (with_reducible refine LeO.ite ?_ ?_)
   | (with_reducible refine LeO.bind ?_ (fun _ => ?_))
   | exact ih0 _ _ _
   | exact laws_toRecordS.mono _ _
   | exact LeO.none _
   | refine LeO.ite ?_ ?_
   | refine LeO.bind ?_ (fun _ => ?_)
set_option maxHeartbeats 8000000 in
set_option maxRecDepth 100000 in
theorem laws_toRecordSS.calls (k : Nat) (A0 : Option Addr) (c0 : Nat) (l0 : List (List (S124))) (r : List (List (S113))) (w : World) (hr0 : Kd.C (Kd.slice 124 k124) w A0 l0.length l0) (hc0 : l0.length ≤ c0) (h : laws_toRecordSS.f k l0 = some r) :
  Calls Try.prog 21 #[.slice A0 l0.length c0] w fun e w' => ∃ v0_ : Value,e = .returned (v0_) ∧ Kd.R (Kd.slice 113 k113) 82 w' w.heap.size (fun _ => True) v0_ r ∧ Below w.heap.size w w':=by
 (have HR0:=Aside0.mk hr0;have HC0:=Aside0.mk hc0;clear hr0 hc0;have HB:=Aside0.mk (Below.refl w.heap.size w);have H : (if 0 ≤ (l0.length : Int) then (if ((l0.length : Int) : Int).toNat ≤ 11728124029610 then (laws_toRecordSS.l0 k l0 (List.replicate ((l0.length : Int) : Int).toNat []) 0) else (none)) else (none)) = some r:=h;clear h;replace H:=Up.ip H;obtain ⟨c2,H⟩:=H;have c2b0:=eq_true c2;have c2b1:=decide_eq_true c2;clear c2;replace H:=Up.ip H;obtain ⟨c3,H⟩:=H;have c3b0:=eq_true c3;have c3b1:=decide_eq_true c3;clear c3;obtain ⟨y128,hy128⟩ : ∃ y_ : List (List (S113)),y_ = (List.replicate ((l0.length : Int) : Int).toNat []):=⟨_,rfl⟩);(replace H : (laws_toRecordSS.l0 k l0 y128 0) = some r:=by first | (rw [hy128];with_reducible exact H) | (have H2_:=(Option.bind_some _ _).symm.trans H;rw [hy128];with_reducible exact H2_) | (have H2_:=(Option.bind_some _ _).symm.trans H;with_reducible exact H2_) | with_reducible exact H | (rw [hy128];exact H) | exact H);have Ny128:=Aside0.mk hy128;clear hy128;have H':=Aside0.mk H;clear H;go_enter Try.func21,Try.ntmps21;go_wp2_with (first | ((with_reducible refine gate_dst (N:=7) rfl ?_);refine Kd.R_make (Kd.slice 113 k113) _ 82 rfl (N:=7) rfl 23 _ _ rfl (l0.length : Int) rfl rfl Try.underlying23 (.slice none 0 0) 24 info82 rfl (by decide) (by omega) [] (ok:=fun _ => True) (okp:=fun _ => True) ⟨_,rfl,Kd.R_nil _ _ _ _ _⟩ (fun _ hk => hk) trivial (Up.od) (Nat.le_trans (Nat.mul_le_mul_right _ (Up.od : (l0.length : Int).toNat ≤ 11728124029610)) (by omega)) (Below.refl _ _) (Nat.le_refl _) ?_;intro v129 w4 ho5 hb hg_ hnew_;clear hg_ hnew_;(first | rw [← Ny128.out] at ho5 | (simp only [Int.reduceToNat] at ho5;rw [← Ny128.out] at ho5));have HO130:=Aside0.mk (Kd.R_lower ho5 (below_size (Up.Bup HB)));replace HB:=Up.BB HB hb;clear hb ho5));go_loopg [4] k (fun kq v4 w' => ∃ (x3_1 : List (List (S113))) (x4_1 : Int),v4 = .int .i64 x4_1 ∧ Aside0 (laws_toRecordSS.l0 kq l0 x3_1 x4_1 = some r) ∧ Aside0 (kq ≤ k) ∧ Aside0 (Kd.R (Kd.slice 113 k113) 82 w' w.heap.size (fun _ => True) v129 x3_1) ∧ Aside0 (Below w.heap.size w w'))
 case atStart => exact ⟨(y128),(0),(by first | rfl | (simp;done) | (simp [*];done)),H',⟨Nat.le_refl _⟩,⟨Up.Rup HO130⟩,⟨Up.Bup HB⟩⟩
 case round =>
  clear H';(try clear c2);(try clear c2b0);(try clear c2b1);(try clear p2);(try clear c3);(try clear c3b0);(try clear c3b1);obtain ⟨x3_1,x4_1,rfl,HA,HK1,HO_3,HB⟩:=hrel;cases gk with
  | zero => exact absurd HA.out (by simp [laws_toRecordSS.l0])
  | succ k1 =>
   have H:=HA.out;clear HA;(simp only [laws_toRecordSS.l0] at H);by_cases c6 : x4_1 < (l0.length : Int)
   ·(rw [if_pos c6] at H);have c6b0:=decide_eq_true c6;clear c6;replace H:=Up.ip H;obtain ⟨c7,H⟩:=H;have c7b0:=decide_eq_true c7;clear c7;replace H:=Up.bd H;obtain ⟨t132,A8,H⟩:=H;(try dsimp only at H);(replace H:=Up.ip H;obtain ⟨c9,H⟩:=H;have c9b0:=decide_eq_true c9;clear c9;obtain ⟨y135,hy135⟩ : ∃ y_ : List (List (S113)),y_ = (x3_1.set (x4_1 : Int).toNat t132):=⟨_,rfl⟩);(replace H : (laws_toRecordSS.l0 k1 l0 y135 (wrap64 (x4_1 + 1))) = some r:=by first | (rw [hy135];with_reducible exact H) | (have H2_:=(Option.bind_some _ _).symm.trans H;rw [hy135];with_reducible exact H2_) | (have H2_:=(Option.bind_some _ _).symm.trans H;with_reducible exact H2_) | with_reducible exact H | (rw [hy135];exact H) | exact H);have Ny135:=Aside0.mk hy135;clear hy135;have H':=Aside0.mk H;clear H;have p131 : 0 ≤ (x4_1 : Int):=Up.od;have q131 : x4_1 < (l0.length : Int):=Up.od;obtain ⟨ad131,A131_0,c131_0,e131,hx131_0,hl131_0,hi131_0⟩:=at_L4 HR0.out x4_1 p131 q131;cases e131;replace hx131_0:=Up.hc HB hx131_0;have HR131_0:=Aside0.mk hi131_0;have HC131_0:=Aside0.mk hl131_0;clear hi131_0 hl131_0;replace p131:=eq_true p131;replace q131:=eq_true q131;go_wp2_with (first | ((with_reducible refine gate_callee (f:=58) rfl ?_);refine Up.gl (some 20) Try.func58 #[.slice A131_0 (rd_L4 l0 x4_1).length c131_0] ?_;(with_reducible refine (laws_toRecordS.calls k1 _ _ (rd_L4 l0 x4_1) t132 _ ?side1 ?side2 A8.out).mono ?_);(case side1 => exact Up.Cx HR131_0 HB);(case side2 => exact HC131_0.out);rintro e w11 ⟨v133,rfl,ho0,hb⟩;refine ⟨_,rfl,?_⟩;replace HO_3:=Aside0.mk (Kd.R_elder' (Up.Rup HO_3) (Kd.S_base ho0) hb);have HO134:=Aside0.mk (Kd.S_lower ho0 (below_size (Up.Bup HB)));replace HB:=Up.BB HB hb;(try clear hb);(try clear hb2);(try clear hk);(try clear hi);(try clear ho0);(first | (obtain ⟨Asv133_,csv133_,esv133_⟩:=Kd.R_slice (Kd.S_R HO134.out)) | (obtain ⟨Asv133_,csv133_,esv133_⟩:=Kd.R_slice HO134.out));subst esv133_;have p10 : 0 ≤ (x4_1 : Int):=Up.od;have q10 : (x4_1 : Int) < ((x3_1.length : Int) : Int):=Up.od;obtain ⟨go10,co10,eo10,gb10,gl10,cl10,HG10⟩:=Kd.R_form HO_3.out (by omega);(first | cases eo10 | (injection eo10 with ea_ en_ ec_;(first | subst ea_ | (injection ea_ with ea_;subst ea_));subst ec_;clear en_));have GB10:=Aside0.mk gb10;have GG10:=Aside0.mk HG10;clear gb10 gl10 HG10;obtain ⟨ce10,hcl10,hM10,hcc10,hfr10⟩:=Kd.R_elem HO_3.out [] (x4_1 : Int) p10 q10;obtain ⟨ve10_0,rfl,ge10_0⟩:=hM10;have hx10_0:=hcc10 0 _ rfl;have hf10_0:=hfr10 0;(try simp only [show ((Kd.slice 113 k113)).sz = 1 from rfl,Nat.mul_one,Nat.add_zero] at hx10_0);(try simp only [show ((Kd.slice 113 k113)).sz = 1 from rfl,Nat.mul_one,Nat.add_zero] at hf10_0);(try clear hcl10);(try clear hcc10);(try clear hfr10);(try clear hM10);replace p10:=eq_true p10;replace q10:=eq_true q10;have n_:=Aside0.mk (Kd.R_mono (ok':=(fun k_ => some k_ ≠ (Value.slice Asv133_ t132.length csv133_).ownBlock)) HO_3.out (fun k_ hk => hk.2));clear HO_3;have HO_3:=n_;clear n_;have HX12:=Aside0.mk (show Kd.R (Kd.slice 113 k113) 82 w11 w.heap.size (fun _ => True) (.slice (some ⟨go10,0,none⟩) x3_1.length co10) x3_1 from (Up.Rq (Kd.R_mono HO_3.out (fun _ hk => trivial))));obtain ⟨ce12,hcl12,hM12,hcc12,hfr12⟩:=Kd.R_elem HX12.out [] (x4_1 : Int) (Up.od) (by have h_ : (x4_1 : Int) < ((x3_1.length : Int) : Int):=Up.od;first | exact h_ | (have e_:=(Kd.R_reads' HO_3.out).1;omega) | simpa using h_);obtain ⟨ve12_0,rfl,ge12_0⟩:=hM12;have HP12:=Kd.R_seg HX12.out (x4_1 : Int) (Up.od) (by have h_ : (x4_1 : Int) < ((x3_1.length : Int) : Int):=Up.od;first | exact h_ | (have e_:=(Kd.R_reads' HO_3.out).1;omega) | simpa using h_) (seg:=[(Value.slice Asv133_ t132.length csv133_)]) (j:=0) hcl12 hcc12 (show 1 ≤ 1 from by decide) (x':=t132) (Kd.M_row (Kd.R_mono (Kd.R_apart' ((Kd.S_R HO134.out)) (Kd.R_typed HO_3.out) (by decide)) (fun k_ hk => ⟨trivial,fun e_ => (hk.2) (by rw [e_];rfl)⟩))) (fun _ hk => hk);have hx12_0:=hcc12 0 _ rfl;(try simp only [show ((Kd.slice 113 k113)).sz = 1 from rfl,Nat.mul_one,Nat.add_zero] at hx12_0);have hf12_0:=hfr12 0;(try simp only [show ((Kd.slice 113 k113)).sz = 1 from rfl,Nat.mul_one,Nat.add_zero] at hf12_0);(try clear hcl12);(try clear hcc12);(try clear hfr12);(try clear hM12);(try simp only [show ((Kd.slice 113 k113)).sz = 1 from rfl,Nat.mul_one,Nat.add_zero] at HP12)) | ((with_reducible refine gate_store (t:=82) (p:=21) rfl ?_);refine store_event (t:=82) (p:=21) (v:=?vo_w13) (w1:=(w11.setCell ⟨go10,(x4_1 : Int).toNat,none⟩ ((Value.slice Asv133_ t132.length csv133_)))) ?hg ?ho ?hn ?hr ?_;(case ho => rfl);(case hg => rfl);(case hn => rfl);(case hr => first | (go_simp;done) | (go_simp;rfl));intro w13 hw;have hg : w11.grownBy w13 (some go10):=(by rw [hw];exact HP12.2);have hp_ : Kd.R (Kd.slice 113 k113) 82 w13 w.heap.size (fun _ => True) (.slice (some ⟨go10,0,none⟩) x3_1.length co10) y135:=(by rw [hw,Ny135.out];exact HP12.1);clear HP12;replace HO_3:=Aside0.mk (hp_);replace HB:=Aside0.mk ((by rw [hw];exact below_set (HB.out) GB10.out : Below w.heap.size w w13));clear HO134 hg hw hp_));go_roundg k1
    case measure => have:=HK1.out;omega
    case rel => exact ⟨(y135),(wrap64 (x4_1 + 1)),(by first | rfl | (simp;done) | (simp [*];done)),H',⟨by have:=HK1.out;omega⟩,⟨Up.Rup HO_3⟩,⟨Up.Bup HB⟩⟩
   ·(rw [if_neg c6] at H);have c6b0:=decide_eq_false c6;clear c6;obtain rfl:=Option.some.inj H;go_wp2;go_ret;exact ⟨_,by first | rfl | (simp [errW_none,errW_some] <;> rfl) | (simp [*,errW_none,errW_some] <;> rfl),Up.Rup HO_3,Up.Bup HB⟩

/-! ### laws_eqStringS: function 118 -/
def laws_eqStringS.l0 : Nat → List ByteArray → List ByteArray → Int → Option (Bool)
 | 0,_,_,_ => none
 | k + 1,x0,x1,x5 => if x5 < (x0.length : Int) then (if 0 ≤ x5 then (if x5 < (x1.length : Int) then (if (rdOf ByteArray.empty x0 x5).toList = (rdOf ByteArray.empty x1 x5).toList then (laws_eqStringS.l0 k x0 x1 (wrap64 (x5 + 1))) else (some false)) else (none)) else (none)) else (some true)
def laws_eqStringS.f (k : Nat) (l0 : List ByteArray) (l1 : List ByteArray) : Option (Bool):=if (l0.length : Int) = (l1.length : Int) then (laws_eqStringS.l0 k l0 l1 0) else (some false)
theorem laws_eqStringS.mono_l : ∀ k,(∀ y0 y1 y2,LeO (laws_eqStringS.l0 k y0 y1 y2) (laws_eqStringS.l0 (k + 1) y0 y1 y2))
 | 0 => fun _ _ _ r h => by simp [laws_eqStringS.l0] at h
 | k + 1 => by
  have ih0:=laws_eqStringS.mono_l k
  ·intro y0 y1 y2;unfold laws_eqStringS.l0;repeat' first
   | (with_reducible exact ih0 _ _ _)
   | (with_reducible exact LeO.refl _)
   | (with_reducible exact LeO.none _)
   | (with_reducible refine LeO.ite ?_ ?_)
   | (with_reducible refine LeO.bind ?_ (fun _ => ?_))
   | exact ih0 _ _ _
   | exact LeO.none _
   | refine LeO.ite ?_ ?_
   | refine LeO.bind ?_ (fun _ => ?_)
theorem laws_eqStringS.mono : ∀ a0 a1 k,LeO (laws_eqStringS.f k a0 a1) (laws_eqStringS.f (k + 1) a0 a1):=by
 intro a0 a1 k;have ih0:=laws_eqStringS.mono_l k;unfold laws_eqStringS.f
 repeat' first
   | (with_reducible exact ih0 _ _ _)
   | (with_reducible exact LeO.refl _)
   | (with_reducible exact LeO.none _)
   | (with_reducible refine LeO.ite ?_ ?_)
   | (with_reducible refine LeO.bind ?_ (fun _ => ?_))
   | exact ih0 _ _ _
   | exact LeO.none _
   | refine LeO.ite ?_ ?_
   | refine LeO.bind ?_ (fun _ => ?_)
set_option maxHeartbeats 8000000 in
set_option maxRecDepth 100000 in
theorem laws_eqStringS.calls (k : Nat) (A0 : Option Addr) (c0 : Nat) (l0 : List ByteArray) (A1 : Option Addr) (c1 : Nat) (l1 : List ByteArray) (r : Bool) (w : World) (hr0 : Kd.C Kd.string w A0 l0.length l0) (hc0 : l0.length ≤ c0) (hr1 : Kd.C Kd.string w A1 l1.length l1) (hc1 : l1.length ≤ c1) (h : laws_eqStringS.f k l0 l1 = some r) :
  Calls Try.prog 118 #[.slice A0 l0.length c0,.slice A1 l1.length c1] w fun e w' => e = .returned (.bool r) ∧ Drawn0 w w':=by
 have HR0:=Aside0.mk hr0;have HC0:=Aside0.mk hc0;clear hr0 hc0;have HR1:=Aside0.mk hr1;have HC1:=Aside0.mk hc1;clear hr1 hc1;have H : (if (l0.length : Int) = (l1.length : Int) then (laws_eqStringS.l0 k l0 l1 0) else (some false)) = some r:=h;clear h;by_cases c3 : (l0.length : Int) = (l1.length : Int)
 ·(rw [if_pos c3] at H);have c3b0 : ((l0.length : Int) == (l1.length : Int)) = true:=beq_iff_eq.mpr c3;have c3b1 : ((l0.length : Int) != (l1.length : Int)) = false:=bne_eq_false_iff_eq.mpr c3;(have c3b2 : (l0.length == l1.length) = true:=by first | simpa using c3 | (simp at c3 ⊢;omega));clear c3;have H':=Aside0.mk H;clear H;go_enter Try.func118,Try.ntmps118;go_wp2;(repeat (go_quiet (fail);try go_wp2));go_loopg [5] k (fun kq v5 w' => ∃ (x5_1 : Int),v5 = .int .i64 x5_1 ∧ Aside0 (laws_eqStringS.l0 kq l0 l1 x5_1 = some r) ∧ Aside0 (kq ≤ k) ∧ Drawn0 w w')
  case atStart => exact ⟨(0),(by first | rfl | (simp;done) | (simp [*];done)),H',⟨Nat.le_refl _⟩,by repeat (first | exact Drawn0.refl _ | apply Drawn0.step)⟩
  case round =>
   clear H';(try clear c1);(try clear p2);(try clear c3);(try clear c3b0);(try clear c3b1);(try clear c3b2);obtain ⟨x5_1,rfl,HA,HK1,⟨m1,rfl⟩⟩:=hrel;cases gk with
   | zero => exact absurd HA.out (by simp [laws_eqStringS.l0])
   | succ k1 =>
    have H:=HA.out;clear HA;(simp only [laws_eqStringS.l0] at H);by_cases c4 : x5_1 < (l0.length : Int)
    ·(rw [if_pos c4] at H);have c4b0:=decide_eq_true c4;clear c4;replace H:=Up.ip H;obtain ⟨c5,H⟩:=H;have c5b0:=decide_eq_true c5;clear c5;replace H:=Up.ip H;obtain ⟨c6,H⟩:=H;have c6b0:=decide_eq_true c6;clear c6;by_cases c7 : (rdOf ByteArray.empty l0 x5_1).toList = (rdOf ByteArray.empty l1 x5_1).toList
     ·(rw [if_pos c7] at H);have c7b0 : ((rdOf ByteArray.empty l0 x5_1).toList == (rdOf ByteArray.empty l1 x5_1).toList) = true:=beq_iff_eq.mpr c7;have c7b1 : ((rdOf ByteArray.empty l0 x5_1).toList != (rdOf ByteArray.empty l1 x5_1).toList) = false:=bne_eq_false_iff_eq.mpr c7;clear c7;have H':=Aside0.mk H;clear H;have p136 : 0 ≤ (x5_1 : Int):=Up.od;have q136 : x5_1 < (l0.length : Int):=Up.od;obtain ⟨ad136,e136,hx136_0⟩:=Kd.at_string HR0.out x5_1 p136 q136;cases e136;replace p136:=eq_true p136;replace q136:=eq_true q136;have p137 : 0 ≤ (x5_1 : Int):=Up.od;have q137 : x5_1 < (l1.length : Int):=Up.od;obtain ⟨ad137,e137,hx137_0⟩:=Kd.at_string HR1.out x5_1 p137 q137;cases e137;replace p137:=eq_true p137;replace q137:=eq_true q137;go_wp2;(repeat (go_quiet (fail);try go_wp2));go_roundg k1
      case measure => have:=HK1.out;omega
      case rel => exact ⟨(wrap64 (x5_1 + 1)),(by first | rfl | (simp;done) | (simp [*];done)),H',⟨by have:=HK1.out;omega⟩,by repeat (first | exact Drawn0.refl _ | apply Drawn0.step)⟩
     ·(rw [if_neg c7] at H);have c7b0 : ((rdOf ByteArray.empty l0 x5_1).toList == (rdOf ByteArray.empty l1 x5_1).toList) = false:=beq_eq_false_iff_ne.mpr c7;have c7b1 : ((rdOf ByteArray.empty l0 x5_1).toList != (rdOf ByteArray.empty l1 x5_1).toList) = true:=bne_iff_ne.mpr c7;obtain rfl:=Option.some.inj H;have p136 : 0 ≤ (x5_1 : Int):=Up.od;have q136 : x5_1 < (l0.length : Int):=Up.od;obtain ⟨ad136,e136,hx136_0⟩:=Kd.at_string HR0.out x5_1 p136 q136;cases e136;replace p136:=eq_true p136;replace q136:=eq_true q136;have p137 : 0 ≤ (x5_1 : Int):=Up.od;have q137 : x5_1 < (l1.length : Int):=Up.od;obtain ⟨ad137,e137,hx137_0⟩:=Kd.at_string HR1.out x5_1 p137 q137;cases e137;replace p137:=eq_true p137;replace q137:=eq_true q137;go_wp2;(repeat (go_quiet (fail);try go_wp2));go_ret;exact Up.e2
    ·(rw [if_neg c4] at H);have c4b0:=decide_eq_false c4;clear c4;obtain rfl:=Option.some.inj H;go_wp2;(repeat (go_quiet (fail);try go_wp2));go_ret;exact Up.e2
 ·(rw [if_neg c3] at H);have c3b0 : ((l0.length : Int) == (l1.length : Int)) = false:=beq_eq_false_iff_ne.mpr c3;have c3b1 : ((l0.length : Int) != (l1.length : Int)) = true:=bne_iff_ne.mpr c3;(have c3b2 : (l0.length == l1.length) = false:=by first | simpa using c3 | (simp at c3 ⊢;omega));obtain rfl:=Option.some.inj H;go_enter Try.func118,Try.ntmps118;go_wp2;(repeat (go_quiet (fail);try go_wp2));go_ret;exact Up.e2

/-! ### laws_eqRecord: function 99 -/
def laws_eqRecord.f (k : Nat) (a0_0 : Int) (l0_1 : List ByteArray) (a1_0 : Int) (l1_1 : List ByteArray) : Option (Bool):=if a0_0 = a1_0 then ((laws_eqStringS.f k l0_1 l1_1).bind fun t140 => (if t140 = true then (some true) else (some false))) else (some false)
theorem laws_eqRecord.mono : ∀ a0 a1 a2 a3 k,LeO (laws_eqRecord.f k a0 a1 a2 a3) (laws_eqRecord.f (k + 1) a0 a1 a2 a3):=by
 intro a0 a1 a2 a3 k;unfold laws_eqRecord.f
 repeat' first
   | (with_reducible exact laws_eqStringS.mono _ _ _)
   | (with_reducible exact LeO.refl _)
   | (with_reducible exact LeO.none _)
   | (with_reducible refine LeO.ite ?_ ?_)
   | (with_reducible refine LeO.bind ?_ (fun _ => ?_))
   | exact laws_eqStringS.mono _ _ _
   | exact LeO.none _
   | refine LeO.ite ?_ ?_
   | refine LeO.bind ?_ (fun _ => ?_)
set_option maxHeartbeats 8000000 in
set_option maxRecDepth 100000 in
theorem laws_eqRecord.calls (k : Nat) (a0_0 : Int) (A0_1 : Option Addr) (c0_1 : Nat) (l0_1 : List ByteArray) (a1_0 : Int) (A1_1 : Option Addr) (c1_1 : Nat) (l1_1 : List ByteArray) (r : Bool) (w : World) (hr0_1 : Kd.C Kd.string w A0_1 l0_1.length l0_1) (hc0_1 : l0_1.length ≤ c0_1) (hr1_1 : Kd.C Kd.string w A1_1 l1_1.length l1_1) (hc1_1 : l1_1.length ≤ c1_1) (h : laws_eqRecord.f k a0_0 l0_1 a1_0 l1_1 = some r) :
  Calls Try.prog 99 #[.agg #[.int .i64 a0_0,.slice A0_1 l0_1.length c0_1],.agg #[.int .i64 a1_0,.slice A1_1 l1_1.length c1_1]] w fun e w' => e = .returned (.bool r) ∧ Below w.heap.size w w':=by
 have hu113:=Try.underlying113;have HR0_1:=Aside0.mk hr0_1;have HC0_1:=Aside0.mk hc0_1;clear hr0_1 hc0_1;have HR1_1:=Aside0.mk hr1_1;have HC1_1:=Aside0.mk hc1_1;clear hr1_1 hc1_1;have HB:=Aside0.mk (Below.refl w.heap.size w);have H : (if a0_0 = a1_0 then ((laws_eqStringS.f k l0_1 l1_1).bind fun t140 => (if t140 = true then (some true) else (some false))) else (some false)) = some r:=h;clear h;by_cases c3 : a0_0 = a1_0
 ·(rw [if_pos c3] at H);have c3b0 : (a0_0 == a1_0) = true:=beq_iff_eq.mpr c3;have c3b1 : (a0_0 != a1_0) = false:=bne_eq_false_iff_eq.mpr c3;clear c3;replace H:=Up.bd H;obtain ⟨t140,A4,H⟩:=H;(try dsimp only at H);by_cases c5 : t140 = true
  ·subst c5;(rw [if_pos rfl] at H);obtain rfl:=Option.some.inj H;go_enter Try.func99,Try.ntmps99;go_wp2_with (first | ((with_reducible refine gate_dst (N:=2) rfl ?_);refine Up.bx 2 113 #[.int .i64 a0_0,.slice A0_1 l0_1.length c0_1] ?_;intro gb138 hg w6 hbox hb;have BK138:=Aside0.mk (hbox);have GW138:=Up.gw hg HB;have GE138:=Up.gw hg HB;replace HB:=Up.BB HB hb;clear hb hbox hg) | ((with_reducible refine gate_dst (N:=3) rfl ?_);refine Up.bx 3 113 #[.int .i64 a1_0,.slice A1_1 l1_1.length c1_1] ?_;intro gb139 hg w7 hbox hb;have BK139:=Aside0.mk (hbox);have GW139:=Up.gw hg HB;have GE139:=Up.gw hg HB;replace HB:=Aside0.mk (below_step (Up.Bx HB) hb);have NB138_139:=Up.nl hg BK138;have NB139_138:=Up.ng hg BK138;replace BK138:=Up.KB BK138 hb;clear hb hbox hg;have hnb8:=NB138_139.out;have hnc8:=NB139_138.out;obtain ⟨hcz9_0,hcz9_1,hfz9_0,hfz9_1⟩:=Up.d2 BK138;obtain ⟨hcz10_0,hcz10_1,hfz10_0,hfz10_1⟩:=Up.d2 BK139) | ((with_reducible refine gate_callee (f:=118) rfl ?_);refine Up.gl (some 14) Try.func118 #[.slice A0_1 l0_1.length c0_1,.slice A1_1 l1_1.length c1_1] ?_;(with_reducible refine (laws_eqStringS.calls k _ _ l0_1 _ _ l1_1 true _ ?side1 ?side2 ?side3 ?side4 A4.out).mono ?_);(case side1 => exact Up.Cx HR0_1 HB);(case side2 => exact HC0_1.out);(case side3 => exact Up.Cx HR1_1 HB);(case side4 => exact HC1_1.out);rintro e w' ⟨rfl,⟨nd,rfl⟩⟩;refine ⟨_,rfl,?_⟩));go_ret;exact Up.e1 (Up.Bx HB)
  ·replace c5:=Bool.eq_false_iff.mpr c5;subst c5;(rw [if_neg (show ¬ (false = true) by decide)] at H);obtain rfl:=Option.some.inj H;go_enter Try.func99,Try.ntmps99;go_wp2_with (first | ((with_reducible refine gate_dst (N:=2) rfl ?_);refine Up.bx 2 113 #[.int .i64 a0_0,.slice A0_1 l0_1.length c0_1] ?_;intro gb138 hg w11 hbox hb;have BK138:=Aside0.mk (hbox);have GW138:=Up.gw hg HB;have GE138:=Up.gw hg HB;replace HB:=Up.BB HB hb;clear hb hbox hg) | ((with_reducible refine gate_dst (N:=3) rfl ?_);refine Up.bx 3 113 #[.int .i64 a1_0,.slice A1_1 l1_1.length c1_1] ?_;intro gb139 hg w12 hbox hb;have BK139:=Aside0.mk (hbox);have GW139:=Up.gw hg HB;have GE139:=Up.gw hg HB;replace HB:=Aside0.mk (below_step (Up.Bx HB) hb);have NB138_139:=Up.nl hg BK138;have NB139_138:=Up.ng hg BK138;replace BK138:=Up.KB BK138 hb;clear hb hbox hg;have hnb13:=NB138_139.out;have hnc13:=NB139_138.out;obtain ⟨hcz14_0,hcz14_1,hfz14_0,hfz14_1⟩:=Up.d2 BK138;obtain ⟨hcz15_0,hcz15_1,hfz15_0,hfz15_1⟩:=Up.d2 BK139) | ((with_reducible refine gate_callee (f:=118) rfl ?_);refine Up.gl (some 14) Try.func118 #[.slice A0_1 l0_1.length c0_1,.slice A1_1 l1_1.length c1_1] ?_;(with_reducible refine (laws_eqStringS.calls k _ _ l0_1 _ _ l1_1 false _ ?side1 ?side2 ?side3 ?side4 A4.out).mono ?_);(case side1 => exact Up.Cx HR0_1 HB);(case side2 => exact HC0_1.out);(case side3 => exact Up.Cx HR1_1 HB);(case side4 => exact HC1_1.out);rintro e w' ⟨rfl,⟨nd,rfl⟩⟩;refine ⟨_,rfl,?_⟩));go_ret;exact Up.e1 (Up.Bx HB)
 ·(rw [if_neg c3] at H);have c3b0 : (a0_0 == a1_0) = false:=beq_eq_false_iff_ne.mpr c3;have c3b1 : (a0_0 != a1_0) = true:=bne_iff_ne.mpr c3;obtain rfl:=Option.some.inj H;go_enter Try.func99,Try.ntmps99;go_wp2_with (first | ((with_reducible refine gate_dst (N:=2) rfl ?_);refine Up.bx 2 113 #[.int .i64 a0_0,.slice A0_1 l0_1.length c0_1] ?_;intro gb138 hg w16 hbox hb;have BK138:=Aside0.mk (hbox);have GW138:=Up.gw hg HB;have GE138:=Up.gw hg HB;replace HB:=Up.BB HB hb;clear hb hbox hg) | ((with_reducible refine gate_dst (N:=3) rfl ?_);refine Up.bx 3 113 #[.int .i64 a1_0,.slice A1_1 l1_1.length c1_1] ?_;intro gb139 hg w17 hbox hb;have BK139:=Aside0.mk (hbox);have GW139:=Up.gw hg HB;have GE139:=Up.gw hg HB;replace HB:=Aside0.mk (below_step (Up.Bx HB) hb);have NB138_139:=Up.nl hg BK138;have NB139_138:=Up.ng hg BK138;replace BK138:=Up.KB BK138 hb;clear hb hbox hg;have hnb18:=NB138_139.out;have hnc18:=NB139_138.out;obtain ⟨hcz19_0,hcz19_1,hfz19_0,hfz19_1⟩:=Up.d2 BK138;obtain ⟨hcz20_0,hcz20_1,hfz20_0,hfz20_1⟩:=Up.d2 BK139));go_ret;exact Up.e1 (Up.Bx HB)

/-! ### laws_eqRecordS: function 61 -/
def laws_eqRecordS.l0 : Nat → List (S113) → List (S113) → Int → Option (Bool)
 | 0,_,_,_ => none
 | k + 1,x0,x1,x5 => if x5 < (x0.length : Int) then (if 0 ≤ x5 then (if x5 < (x1.length : Int) then ((laws_eqRecord.f k ((rd_T113 x0 x5).f0) ((rd_T113 x0 x5).f1) ((rd_T113 x1 x5).f0) ((rd_T113 x1 x5).f1)).bind fun t143 => (if t143 = true then (laws_eqRecordS.l0 k x0 x1 (wrap64 (x5 + 1))) else (some false))) else (none)) else (none)) else (some true)
def laws_eqRecordS.f (k : Nat) (l0 : List (S113)) (l1 : List (S113)) : Option (Bool):=if (l0.length : Int) = (l1.length : Int) then (laws_eqRecordS.l0 k l0 l1 0) else (some false)
theorem laws_eqRecordS.mono_l : ∀ k,(∀ y0 y1 y2,LeO (laws_eqRecordS.l0 k y0 y1 y2) (laws_eqRecordS.l0 (k + 1) y0 y1 y2))
 | 0 => fun _ _ _ r h => by simp [laws_eqRecordS.l0] at h
 | k + 1 => by
  have ih0:=laws_eqRecordS.mono_l k
  ·intro y0 y1 y2;unfold laws_eqRecordS.l0;repeat' first
   | (with_reducible exact ih0 _ _ _)
   | (with_reducible exact laws_eqRecord.mono _ _ _ _ _)
   | (with_reducible exact LeO.refl _)
   | (with_reducible exact LeO.none _)
   | (with_reducible refine LeO.ite ?_ ?_)
   | (with_reducible refine LeO.bind ?_ (fun _ => ?_))
   | exact ih0 _ _ _
   | exact laws_eqRecord.mono _ _ _ _ _
   | exact LeO.none _
   | refine LeO.ite ?_ ?_
   | refine LeO.bind ?_ (fun _ => ?_)
theorem laws_eqRecordS.mono : ∀ a0 a1 k,LeO (laws_eqRecordS.f k a0 a1) (laws_eqRecordS.f (k + 1) a0 a1):=by
 intro a0 a1 k;have ih0:=laws_eqRecordS.mono_l k;unfold laws_eqRecordS.f
 repeat' first
   | (with_reducible exact ih0 _ _ _)
   | (with_reducible exact laws_eqRecord.mono _ _ _ _ _)
   | (with_reducible exact LeO.refl _)
   | (with_reducible exact LeO.none _)
   | (with_reducible refine LeO.ite ?_ ?_)
   | (with_reducible refine LeO.bind ?_ (fun _ => ?_))
   | exact ih0 _ _ _
   | exact laws_eqRecord.mono _ _ _ _ _
   | exact LeO.none _
   | refine LeO.ite ?_ ?_
   | refine LeO.bind ?_ (fun _ => ?_)
def laws_eqRecordS.T6 : Bool × List (List Nat × List Nat):=(true,[([],[]),([],[]),([0,1],[0,1]),([2],[2]),([],[]),([],[]),([4,5],[4,5]),([6],[6]),([3,7],[3,7]),([8],[8])])
def laws_eqRecordS.B6 : List Nat:=[0,0,3,7,0,0,48,112,255,511]
theorem laws_eqRecordS.tab6 : rtab .any (opsOf Try.f61 6) = laws_eqRecordS.T6:=by kernel_rfl
theorem laws_eqRecordS.bits6 : waitsOk laws_eqRecordS.T6.2 laws_eqRecordS.B6 = true:=by kernel_rfl
set_option maxHeartbeats 8000000 in
set_option maxRecDepth 100000 in
theorem laws_eqRecordS.calls (k : Nat) (A0 : Option Addr) (c0 : Nat) (l0 : List (S113)) (A1 : Option Addr) (c1 : Nat) (l1 : List (S113)) (r : Bool) (w : World) (hr0 : Kd.C k113 w A0 l0.length l0) (hc0 : l0.length ≤ c0) (hr1 : Kd.C k113 w A1 l1.length l1) (hc1 : l1.length ≤ c1) (h : laws_eqRecordS.f k l0 l1 = some r) :
  Calls Try.prog 61 #[.slice A0 l0.length c0,.slice A1 l1.length c1] w fun e w' => e = .returned (.bool r) ∧ Below w.heap.size w w':=by
 have hu113:=Try.underlying113;have HR0:=Aside0.mk hr0;have HC0:=Aside0.mk hc0;clear hr0 hc0;have HR1:=Aside0.mk hr1;have HC1:=Aside0.mk hc1;clear hr1 hc1;have HB:=Aside0.mk (Below.refl w.heap.size w);have H : (if (l0.length : Int) = (l1.length : Int) then (laws_eqRecordS.l0 k l0 l1 0) else (some false)) = some r:=h;clear h;by_cases c3 : (l0.length : Int) = (l1.length : Int)
 ·(rw [if_pos c3] at H);have c3b0 : ((l0.length : Int) == (l1.length : Int)) = true:=beq_iff_eq.mpr c3;have c3b1 : ((l0.length : Int) != (l1.length : Int)) = false:=bne_eq_false_iff_eq.mpr c3;(have c3b2 : (l0.length == l1.length) = true:=by first | simpa using c3 | (simp at c3 ⊢;omega));clear c3;have H':=Aside0.mk H;clear H;go_enter Try.func61,Try.ntmps61;go_wp2;go_loopg [5] k (fun kq v5 w' => ∃ (x5_1 : Int),v5 = .int .i64 x5_1 ∧ Aside0 (laws_eqRecordS.l0 kq l0 l1 x5_1 = some r) ∧ Aside0 (kq ≤ k) ∧ Aside0 (Below w.heap.size w w'))
  case atStart => exact ⟨(0),(by first | rfl | (simp;done) | (simp [*];done)),H',⟨Nat.le_refl _⟩,⟨Up.Bup HB⟩⟩
  case round =>
   clear H';(try clear c1);(try clear p2);(try clear c3);(try clear c3b0);(try clear c3b1);(try clear c3b2);obtain ⟨x5_1,rfl,HA,HK1,HB⟩:=hrel;cases gk with
   | zero => exact absurd HA.out (by simp [laws_eqRecordS.l0])
   | succ k1 =>
    have H:=HA.out;clear HA;(simp only [laws_eqRecordS.l0] at H);by_cases c4 : x5_1 < (l0.length : Int)
    ·(rw [if_pos c4] at H);have c4b0:=decide_eq_true c4;clear c4;replace H:=Up.ip H;obtain ⟨c5,H⟩:=H;have c5b0:=decide_eq_true c5;clear c5;replace H:=Up.ip H;obtain ⟨c6,H⟩:=H;have c6b0:=decide_eq_true c6;clear c6;replace H:=Up.bd H;obtain ⟨t143,A7,H⟩:=H;(try dsimp only at H);by_cases c8 : t143 = true
     ·subst c8;(rw [if_pos rfl] at H);have H':=Aside0.mk H;clear H;(try go_wp2);replace HB:=Aside0.mk (below_drew1 HB.out);have p141 : 0 ≤ (x5_1 : Int):=Up.od;have q141 : x5_1 < (l0.length : Int):=Up.od;obtain ⟨ad141,A141_1,c141_1,e141,hx141_0,hx141_1,hl141_1,hi141_1⟩:=at_T113 HR0.out x5_1 p141 q141;have hw141_1:=hx141_1;have hw141_0:=hx141_0;cases e141;replace hx141_0:=Up.hc HB hx141_0;replace hx141_1:=Up.hc HB hx141_1;have HR141_1:=Aside0.mk hi141_1;have HC141_1:=Aside0.mk hl141_1;clear hi141_1 hl141_1;replace p141:=eq_true p141;replace q141:=eq_true q141;have p142 : 0 ≤ (x5_1 : Int):=Up.od;have q142 : x5_1 < (l1.length : Int):=Up.od;obtain ⟨ad142,A142_1,c142_1,e142,hx142_0,hx142_1,hl142_1,hi142_1⟩:=at_T113 HR1.out x5_1 p142 q142;have hw142_1:=hx142_1;have hw142_0:=hx142_0;cases e142;replace hx142_0:=Up.hc HB hx142_0;replace hx142_1:=Up.hc HB hx142_1;have HR142_1:=Aside0.mk hi142_1;have HC142_1:=Aside0.mk hl142_1;clear hi142_1 hl142_1;replace p142:=eq_true p142;replace q142:=eq_true q142;refine start_ (n:=10) (S:=fun w' => w'.cell? (ad141.add ((x5_1).toNat * 2)) = some (.int .i64 ((rd_T113 l0 x5_1).f0)) ∧ w'.cell? ⟨(ad141.add ((x5_1).toNat * 2)).block,(ad141.add ((x5_1).toNat * 2)).off + 1,none⟩ = some (.slice A141_1 ((rd_T113 l0 x5_1).f1).length c141_1) ∧ w'.cell? (ad142.add ((x5_1).toNat * 2)) = some (.int .i64 ((rd_T113 l1 x5_1).f0)) ∧ w'.cell? ⟨(ad142.add ((x5_1).toNat * 2)).block,(ad142.add ((x5_1).toNat * 2)).off + 1,none⟩ = some (.slice A142_1 ((rd_T113 l1 x5_1).f1).length c142_1)) (ds:=[]) #[false,false,false,false,false,false,false,false,false,false] (by kernel_rfl) rfl rfl ⟨(Up.hd HB hw141_0),(Up.hd HB hw141_1),(Up.hd HB hw142_0),(Up.hd HB hw142_1)⟩ (fun hHeld => ?_);refine with_tabW laws_eqRecordS.tab6 laws_eqRecordS.bits6 (fun HT_ HW_ => ?_);(generalize wr.drew = w9 at HB HR141_1 HR142_1 hx141_0 hx141_1 hx142_0 hx142_1 hHeld ⊢);refine Up.pu 0 (some 17) HT_ ?_;refine Up.pu 1 (some 18) HT_ ?_;refine Up.pu 2 (some 19) HT_ ?_;refine Up.pu 4 (some 21) HT_ ?_;refine Up.pu 5 (some 22) HT_ ?_;refine Up.pu 6 (some 23) HT_ ?_;refine Up.tk 3 (some 20) HT_ HW_ hHeld ?_ (hy:=by rintro w' ⟨s0,s1,s2,s3⟩;go_simp;with_reducible rfl);refine Up.tk 7 (some 24) HT_ HW_ hHeld ?_ (hy:=by rintro w' ⟨s0,s1,s2,s3⟩;go_simp;with_reducible rfl);refine Up.on 8 (some 25) HT_ (fun K hK => ?_);refine Up.go Try.func99 #[.agg #[.int .i64 ((rd_T113 l0 x5_1).f0),.slice A141_1 ((rd_T113 l0 x5_1).f1).length c141_1],.agg #[.int .i64 ((rd_T113 l1 x5_1).f0),.slice A142_1 ((rd_T113 l1 x5_1).f1).length c142_1]] ?_
      with_reducible refine (laws_eqRecord.calls k1 ((rd_T113 l0 x5_1).f0) _ _ ((rd_T113 l0 x5_1).f1) ((rd_T113 l1 x5_1).f0) _ _ ((rd_T113 l1 x5_1).f1) true _ ?side1 ?side2 ?side3 ?side4 A7.out).mono ?_
      (case side1 => exact Up.Cx HR141_1 HB);(case side2 => exact HC141_1.out);(case side3 => exact Up.Cx HR142_1 HB);(case side4 => exact HC142_1.out);rintro e w10 ⟨rfl,hb⟩;refine ⟨_,rfl,?_⟩;replace HB:=Up.BB HB hb;(try clear hb);(try clear hb2);(try clear hk);(try clear hi);refine hK.out _ _ ⟨(Up.hd HB hw141_0),(Up.hd HB hw141_1),(Up.hd HB hw142_0),(Up.hd HB hw142_1)⟩ (fun hHeld => ?_);clear hK K;refine Up.nm 25 ?_;refine Up.pu 9 (some 26) HT_ ?_;refine done_ (done_of HT_.out (by kernel_rfl)) ?_;(try go_wp2);go_roundg k1
      case measure => have:=HK1.out;omega
      case rel => exact ⟨(wrap64 (x5_1 + 1)),(by first | rfl | (simp;done) | (simp [*];done)),H',⟨by have:=HK1.out;omega⟩,⟨Up.Bup HB⟩⟩
     ·replace c8:=Bool.eq_false_iff.mpr c8;subst c8;(rw [if_neg (show ¬ (false = true) by decide)] at H);obtain rfl:=Option.some.inj H;(try go_wp2);replace HB:=Aside0.mk (below_drew1 HB.out);have p141 : 0 ≤ (x5_1 : Int):=Up.od;have q141 : x5_1 < (l0.length : Int):=Up.od;obtain ⟨ad141,A141_1,c141_1,e141,hx141_0,hx141_1,hl141_1,hi141_1⟩:=at_T113 HR0.out x5_1 p141 q141;have hw141_1:=hx141_1;have hw141_0:=hx141_0;cases e141;replace hx141_0:=Up.hc HB hx141_0;replace hx141_1:=Up.hc HB hx141_1;have HR141_1:=Aside0.mk hi141_1;have HC141_1:=Aside0.mk hl141_1;clear hi141_1 hl141_1;replace p141:=eq_true p141;replace q141:=eq_true q141;have p142 : 0 ≤ (x5_1 : Int):=Up.od;have q142 : x5_1 < (l1.length : Int):=Up.od;obtain ⟨ad142,A142_1,c142_1,e142,hx142_0,hx142_1,hl142_1,hi142_1⟩:=at_T113 HR1.out x5_1 p142 q142;have hw142_1:=hx142_1;have hw142_0:=hx142_0;cases e142;replace hx142_0:=Up.hc HB hx142_0;replace hx142_1:=Up.hc HB hx142_1;have HR142_1:=Aside0.mk hi142_1;have HC142_1:=Aside0.mk hl142_1;clear hi142_1 hl142_1;replace p142:=eq_true p142;replace q142:=eq_true q142;refine start_ (n:=10) (S:=fun w' => w'.cell? (ad141.add ((x5_1).toNat * 2)) = some (.int .i64 ((rd_T113 l0 x5_1).f0)) ∧ w'.cell? ⟨(ad141.add ((x5_1).toNat * 2)).block,(ad141.add ((x5_1).toNat * 2)).off + 1,none⟩ = some (.slice A141_1 ((rd_T113 l0 x5_1).f1).length c141_1) ∧ w'.cell? (ad142.add ((x5_1).toNat * 2)) = some (.int .i64 ((rd_T113 l1 x5_1).f0)) ∧ w'.cell? ⟨(ad142.add ((x5_1).toNat * 2)).block,(ad142.add ((x5_1).toNat * 2)).off + 1,none⟩ = some (.slice A142_1 ((rd_T113 l1 x5_1).f1).length c142_1)) (ds:=[]) #[false,false,false,false,false,false,false,false,false,false] (by kernel_rfl) rfl rfl ⟨(Up.hd HB hw141_0),(Up.hd HB hw141_1),(Up.hd HB hw142_0),(Up.hd HB hw142_1)⟩ (fun hHeld => ?_);refine with_tabW laws_eqRecordS.tab6 laws_eqRecordS.bits6 (fun HT_ HW_ => ?_);(generalize wr.drew = w11 at HB HR141_1 HR142_1 hx141_0 hx141_1 hx142_0 hx142_1 hHeld ⊢);refine Up.pu 0 (some 17) HT_ ?_;refine Up.pu 1 (some 18) HT_ ?_;refine Up.pu 2 (some 19) HT_ ?_;refine Up.pu 4 (some 21) HT_ ?_;refine Up.pu 5 (some 22) HT_ ?_;refine Up.pu 6 (some 23) HT_ ?_;refine Up.tk 3 (some 20) HT_ HW_ hHeld ?_ (hy:=by rintro w' ⟨s0,s1,s2,s3⟩;go_simp;with_reducible rfl);refine Up.tk 7 (some 24) HT_ HW_ hHeld ?_ (hy:=by rintro w' ⟨s0,s1,s2,s3⟩;go_simp;with_reducible rfl);refine Up.on 8 (some 25) HT_ (fun K hK => ?_);refine Up.go Try.func99 #[.agg #[.int .i64 ((rd_T113 l0 x5_1).f0),.slice A141_1 ((rd_T113 l0 x5_1).f1).length c141_1],.agg #[.int .i64 ((rd_T113 l1 x5_1).f0),.slice A142_1 ((rd_T113 l1 x5_1).f1).length c142_1]] ?_
      with_reducible refine (laws_eqRecord.calls k1 ((rd_T113 l0 x5_1).f0) _ _ ((rd_T113 l0 x5_1).f1) ((rd_T113 l1 x5_1).f0) _ _ ((rd_T113 l1 x5_1).f1) false _ ?side1 ?side2 ?side3 ?side4 A7.out).mono ?_
      (case side1 => exact Up.Cx HR141_1 HB);(case side2 => exact HC141_1.out);(case side3 => exact Up.Cx HR142_1 HB);(case side4 => exact HC142_1.out);rintro e w12 ⟨rfl,hb⟩;refine ⟨_,rfl,?_⟩;replace HB:=Up.BB HB hb;(try clear hb);(try clear hb2);(try clear hk);(try clear hi);refine hK.out _ _ ⟨(Up.hd HB hw141_0),(Up.hd HB hw141_1),(Up.hd HB hw142_0),(Up.hd HB hw142_1)⟩ (fun hHeld => ?_);clear hK K;refine Up.nm 25 ?_;refine Up.pu 9 (some 26) HT_ ?_;refine done_ (done_of HT_.out (by kernel_rfl)) ?_;(try go_wp2);go_ret;exact Up.e1 (Up.Bup HB)
    ·(rw [if_neg c4] at H);have c4b0:=decide_eq_false c4;clear c4;obtain rfl:=Option.some.inj H;go_wp2;go_ret;exact Up.e1 (Up.Bup HB)
 ·(rw [if_neg c3] at H);have c3b0 : ((l0.length : Int) == (l1.length : Int)) = false:=beq_eq_false_iff_ne.mpr c3;have c3b1 : ((l0.length : Int) != (l1.length : Int)) = true:=bne_iff_ne.mpr c3;(have c3b2 : (l0.length == l1.length) = false:=by first | simpa using c3 | (simp at c3 ⊢;omega));obtain rfl:=Option.some.inj H;go_enter Try.func61,Try.ntmps61;go_wp2;go_ret;exact Up.e1 (Up.Bup HB)

/-! ### laws_eqRecordSS: function 23 -/
def laws_eqRecordSS.l0 : Nat → List (List (S113)) → List (List (S113)) → Int → Option (Bool)
 | 0,_,_,_ => none
 | k + 1,x0,x1,x5 => if x5 < (x0.length : Int) then (if 0 ≤ x5 then (if x5 < (x1.length : Int) then ((laws_eqRecordS.f k (rd_L6 x0 x5) (rd_L6 x1 x5)).bind fun t146 => (if t146 = true then (laws_eqRecordSS.l0 k x0 x1 (wrap64 (x5 + 1))) else (some false))) else (none)) else (none)) else (some true)
def laws_eqRecordSS.f (k : Nat) (l0 : List (List (S113))) (l1 : List (List (S113))) : Option (Bool):=if (l0.length : Int) = (l1.length : Int) then (laws_eqRecordSS.l0 k l0 l1 0) else (some false)
theorem laws_eqRecordSS.mono_l : ∀ k,(∀ y0 y1 y2,LeO (laws_eqRecordSS.l0 k y0 y1 y2) (laws_eqRecordSS.l0 (k + 1) y0 y1 y2))
 | 0 => fun _ _ _ r h => by simp [laws_eqRecordSS.l0] at h
 | k + 1 => by
  have ih0:=laws_eqRecordSS.mono_l k
  ·intro y0 y1 y2;unfold laws_eqRecordSS.l0;repeat' first
   | (with_reducible exact ih0 _ _ _)
   | (with_reducible exact laws_eqRecordS.mono _ _ _)
   | (with_reducible exact LeO.refl _)
   | (with_reducible exact LeO.none _)
   | (with_reducible refine LeO.ite ?_ ?_)
   | (with_reducible refine LeO.bind ?_ (fun _ => ?_))
   | exact ih0 _ _ _
   | exact laws_eqRecordS.mono _ _ _
   | exact LeO.none _
   | refine LeO.ite ?_ ?_
   | refine LeO.bind ?_ (fun _ => ?_)
theorem laws_eqRecordSS.mono : ∀ a0 a1 k,LeO (laws_eqRecordSS.f k a0 a1) (laws_eqRecordSS.f (k + 1) a0 a1):=by
 intro a0 a1 k;have ih0:=laws_eqRecordSS.mono_l k;unfold laws_eqRecordSS.f
 repeat' first
   | (with_reducible exact ih0 _ _ _)
   | (with_reducible exact laws_eqRecordS.mono _ _ _)
   | (with_reducible exact LeO.refl _)
   | (with_reducible exact LeO.none _)
   | (with_reducible refine LeO.ite ?_ ?_)
   | (with_reducible refine LeO.bind ?_ (fun _ => ?_))
   | exact ih0 _ _ _
   | exact laws_eqRecordS.mono _ _ _
   | exact LeO.none _
   | refine LeO.ite ?_ ?_
   | refine LeO.bind ?_ (fun _ => ?_)
def laws_eqRecordSS.T6 : Bool × List (List Nat × List Nat):=(true,[([],[]),([],[]),([0,1],[0,1]),([2],[2]),([],[]),([],[]),([4,5],[4,5]),([6],[6]),([3,7],[3,7]),([8],[8])])
def laws_eqRecordSS.B6 : List Nat:=[0,0,3,7,0,0,48,112,255,511]
theorem laws_eqRecordSS.tab6 : rtab .any (opsOf Try.f23 6) = laws_eqRecordSS.T6:=by kernel_rfl
theorem laws_eqRecordSS.bits6 : waitsOk laws_eqRecordSS.T6.2 laws_eqRecordSS.B6 = true:=by kernel_rfl
set_option maxHeartbeats 8000000 in
set_option maxRecDepth 100000 in
theorem laws_eqRecordSS.calls (k : Nat) (A0 : Option Addr) (c0 : Nat) (l0 : List (List (S113))) (A1 : Option Addr) (c1 : Nat) (l1 : List (List (S113))) (r : Bool) (w : World) (hr0 : Kd.C (Kd.slice 113 k113) w A0 l0.length l0) (hc0 : l0.length ≤ c0) (hr1 : Kd.C (Kd.slice 113 k113) w A1 l1.length l1) (hc1 : l1.length ≤ c1) (h : laws_eqRecordSS.f k l0 l1 = some r) :
  Calls Try.prog 23 #[.slice A0 l0.length c0,.slice A1 l1.length c1] w fun e w' => e = .returned (.bool r) ∧ Below w.heap.size w w':=by
 have HR0:=Aside0.mk hr0;have HC0:=Aside0.mk hc0;clear hr0 hc0;have HR1:=Aside0.mk hr1;have HC1:=Aside0.mk hc1;clear hr1 hc1;have HB:=Aside0.mk (Below.refl w.heap.size w);have H : (if (l0.length : Int) = (l1.length : Int) then (laws_eqRecordSS.l0 k l0 l1 0) else (some false)) = some r:=h;clear h;by_cases c3 : (l0.length : Int) = (l1.length : Int)
 ·(rw [if_pos c3] at H);have c3b0 : ((l0.length : Int) == (l1.length : Int)) = true:=beq_iff_eq.mpr c3;have c3b1 : ((l0.length : Int) != (l1.length : Int)) = false:=bne_eq_false_iff_eq.mpr c3;(have c3b2 : (l0.length == l1.length) = true:=by first | simpa using c3 | (simp at c3 ⊢;omega));clear c3;have H':=Aside0.mk H;clear H;go_enter Try.func23,Try.ntmps23;go_wp2;go_loopg [5] k (fun kq v5 w' => ∃ (x5_1 : Int),v5 = .int .i64 x5_1 ∧ Aside0 (laws_eqRecordSS.l0 kq l0 l1 x5_1 = some r) ∧ Aside0 (kq ≤ k) ∧ Aside0 (Below w.heap.size w w'))
  case atStart => exact ⟨(0),(by first | rfl | (simp;done) | (simp [*];done)),H',⟨Nat.le_refl _⟩,⟨Up.Bup HB⟩⟩
  case round =>
   clear H';(try clear c1);(try clear c2);(try clear p2);(try clear c3);(try clear c3b0);(try clear c3b1);(try clear c3b2);obtain ⟨x5_1,rfl,HA,HK1,HB⟩:=hrel;cases gk with
   | zero => exact absurd HA.out (by simp [laws_eqRecordSS.l0])
   | succ k1 =>
    have H:=HA.out;clear HA;(simp only [laws_eqRecordSS.l0] at H);by_cases c4 : x5_1 < (l0.length : Int)
    ·(rw [if_pos c4] at H);have c4b0:=decide_eq_true c4;clear c4;replace H:=Up.ip H;obtain ⟨c5,H⟩:=H;have c5b0:=decide_eq_true c5;clear c5;replace H:=Up.ip H;obtain ⟨c6,H⟩:=H;have c6b0:=decide_eq_true c6;clear c6;replace H:=Up.bd H;obtain ⟨t146,A7,H⟩:=H;(try dsimp only at H);by_cases c8 : t146 = true
     ·subst c8;(rw [if_pos rfl] at H);have H':=Aside0.mk H;clear H;(try go_wp2);replace HB:=Aside0.mk (below_drew1 HB.out);have p144 : 0 ≤ (x5_1 : Int):=Up.od;have q144 : x5_1 < (l0.length : Int):=Up.od;obtain ⟨ad144,A144_0,c144_0,e144,hx144_0,hl144_0,hi144_0⟩:=at_L6 HR0.out x5_1 p144 q144;have hw144_0:=hx144_0;cases e144;replace hx144_0:=Up.hc HB hx144_0;have HR144_0:=Aside0.mk hi144_0;have HC144_0:=Aside0.mk hl144_0;clear hi144_0 hl144_0;replace p144:=eq_true p144;replace q144:=eq_true q144;have p145 : 0 ≤ (x5_1 : Int):=Up.od;have q145 : x5_1 < (l1.length : Int):=Up.od;obtain ⟨ad145,A145_0,c145_0,e145,hx145_0,hl145_0,hi145_0⟩:=at_L6 HR1.out x5_1 p145 q145;have hw145_0:=hx145_0;cases e145;replace hx145_0:=Up.hc HB hx145_0;have HR145_0:=Aside0.mk hi145_0;have HC145_0:=Aside0.mk hl145_0;clear hi145_0 hl145_0;replace p145:=eq_true p145;replace q145:=eq_true q145;refine start_ (n:=10) (S:=fun w' => w'.cell? (ad144.add (x5_1).toNat) = some (.slice A144_0 (rd_L6 l0 x5_1).length c144_0) ∧ w'.cell? (ad145.add (x5_1).toNat) = some (.slice A145_0 (rd_L6 l1 x5_1).length c145_0)) (ds:=[]) #[false,false,false,false,false,false,false,false,false,false] (by kernel_rfl) rfl rfl ⟨(Up.hd HB hw144_0),(Up.hd HB hw145_0)⟩ (fun hHeld => ?_);refine with_tabW laws_eqRecordSS.tab6 laws_eqRecordSS.bits6 (fun HT_ HW_ => ?_);(generalize wr.drew = w9 at HB HR144_0 HR145_0 hx144_0 hx145_0 hHeld ⊢);refine Up.pu 0 (some 17) HT_ ?_;refine Up.pu 1 (some 18) HT_ ?_;refine Up.pu 2 (some 19) HT_ ?_;refine Up.pu 4 (some 21) HT_ ?_;refine Up.pu 5 (some 22) HT_ ?_;refine Up.pu 6 (some 23) HT_ ?_;refine Up.tk 3 (some 20) HT_ HW_ hHeld ?_ (hy:=by rintro w' ⟨s0,s1⟩;go_simp;with_reducible rfl);refine Up.tk 7 (some 24) HT_ HW_ hHeld ?_ (hy:=by rintro w' ⟨s0,s1⟩;go_simp;with_reducible rfl);refine Up.on 8 (some 25) HT_ (fun K hK => ?_);refine Up.go Try.func61 #[.slice A144_0 (rd_L6 l0 x5_1).length c144_0,.slice A145_0 (rd_L6 l1 x5_1).length c145_0] ?_
      with_reducible refine (laws_eqRecordS.calls k1 _ _ (rd_L6 l0 x5_1) _ _ (rd_L6 l1 x5_1) true _ ?side1 ?side2 ?side3 ?side4 A7.out).mono ?_
      (case side1 => exact Up.Cx HR144_0 HB);(case side2 => exact HC144_0.out);(case side3 => exact Up.Cx HR145_0 HB);(case side4 => exact HC145_0.out);rintro e w10 ⟨rfl,hb⟩;refine ⟨_,rfl,?_⟩;replace HB:=Up.BB HB hb;(try clear hb);(try clear hb2);(try clear hk);(try clear hi);refine hK.out _ _ ⟨(Up.hd HB hw144_0),(Up.hd HB hw145_0)⟩ (fun hHeld => ?_);clear hK K;refine Up.nm 25 ?_;refine Up.pu 9 (some 26) HT_ ?_;refine done_ (done_of HT_.out (by kernel_rfl)) ?_;(try go_wp2);go_roundg k1
      case measure => have:=HK1.out;omega
      case rel => exact ⟨(wrap64 (x5_1 + 1)),(by first | rfl | (simp;done) | (simp [*];done)),H',⟨by have:=HK1.out;omega⟩,⟨Up.Bup HB⟩⟩
     ·replace c8:=Bool.eq_false_iff.mpr c8;subst c8;(rw [if_neg (show ¬ (false = true) by decide)] at H);obtain rfl:=Option.some.inj H;(try go_wp2);replace HB:=Aside0.mk (below_drew1 HB.out);have p144 : 0 ≤ (x5_1 : Int):=Up.od;have q144 : x5_1 < (l0.length : Int):=Up.od;obtain ⟨ad144,A144_0,c144_0,e144,hx144_0,hl144_0,hi144_0⟩:=at_L6 HR0.out x5_1 p144 q144;have hw144_0:=hx144_0;cases e144;replace hx144_0:=Up.hc HB hx144_0;have HR144_0:=Aside0.mk hi144_0;have HC144_0:=Aside0.mk hl144_0;clear hi144_0 hl144_0;replace p144:=eq_true p144;replace q144:=eq_true q144;have p145 : 0 ≤ (x5_1 : Int):=Up.od;have q145 : x5_1 < (l1.length : Int):=Up.od;obtain ⟨ad145,A145_0,c145_0,e145,hx145_0,hl145_0,hi145_0⟩:=at_L6 HR1.out x5_1 p145 q145;have hw145_0:=hx145_0;cases e145;replace hx145_0:=Up.hc HB hx145_0;have HR145_0:=Aside0.mk hi145_0;have HC145_0:=Aside0.mk hl145_0;clear hi145_0 hl145_0;replace p145:=eq_true p145;replace q145:=eq_true q145;refine start_ (n:=10) (S:=fun w' => w'.cell? (ad144.add (x5_1).toNat) = some (.slice A144_0 (rd_L6 l0 x5_1).length c144_0) ∧ w'.cell? (ad145.add (x5_1).toNat) = some (.slice A145_0 (rd_L6 l1 x5_1).length c145_0)) (ds:=[]) #[false,false,false,false,false,false,false,false,false,false] (by kernel_rfl) rfl rfl ⟨(Up.hd HB hw144_0),(Up.hd HB hw145_0)⟩ (fun hHeld => ?_);refine with_tabW laws_eqRecordSS.tab6 laws_eqRecordSS.bits6 (fun HT_ HW_ => ?_);(generalize wr.drew = w11 at HB HR144_0 HR145_0 hx144_0 hx145_0 hHeld ⊢);refine Up.pu 0 (some 17) HT_ ?_;refine Up.pu 1 (some 18) HT_ ?_;refine Up.pu 2 (some 19) HT_ ?_;refine Up.pu 4 (some 21) HT_ ?_;refine Up.pu 5 (some 22) HT_ ?_;refine Up.pu 6 (some 23) HT_ ?_;refine Up.tk 3 (some 20) HT_ HW_ hHeld ?_ (hy:=by rintro w' ⟨s0,s1⟩;go_simp;with_reducible rfl);refine Up.tk 7 (some 24) HT_ HW_ hHeld ?_ (hy:=by rintro w' ⟨s0,s1⟩;go_simp;with_reducible rfl);refine Up.on 8 (some 25) HT_ (fun K hK => ?_);refine Up.go Try.func61 #[.slice A144_0 (rd_L6 l0 x5_1).length c144_0,.slice A145_0 (rd_L6 l1 x5_1).length c145_0] ?_
      with_reducible refine (laws_eqRecordS.calls k1 _ _ (rd_L6 l0 x5_1) _ _ (rd_L6 l1 x5_1) false _ ?side1 ?side2 ?side3 ?side4 A7.out).mono ?_
      (case side1 => exact Up.Cx HR144_0 HB);(case side2 => exact HC144_0.out);(case side3 => exact Up.Cx HR145_0 HB);(case side4 => exact HC145_0.out);rintro e w12 ⟨rfl,hb⟩;refine ⟨_,rfl,?_⟩;replace HB:=Up.BB HB hb;(try clear hb);(try clear hb2);(try clear hk);(try clear hi);refine hK.out _ _ ⟨(Up.hd HB hw144_0),(Up.hd HB hw145_0)⟩ (fun hHeld => ?_);clear hK K;refine Up.nm 25 ?_;refine Up.pu 9 (some 26) HT_ ?_;refine done_ (done_of HT_.out (by kernel_rfl)) ?_;(try go_wp2);go_ret;exact Up.e1 (Up.Bup HB)
    ·(rw [if_neg c4] at H);have c4b0:=decide_eq_false c4;clear c4;obtain rfl:=Option.some.inj H;go_wp2;go_ret;exact Up.e1 (Up.Bup HB)
 ·(rw [if_neg c3] at H);have c3b0 : ((l0.length : Int) == (l1.length : Int)) = false:=beq_eq_false_iff_ne.mpr c3;have c3b1 : ((l0.length : Int) != (l1.length : Int)) = true:=bne_iff_ne.mpr c3;(have c3b2 : (l0.length == l1.length) = false:=by first | simpa using c3 | (simp at c3 ⊢;omega));obtain rfl:=Option.some.inj H;go_enter Try.func23,Try.ntmps23;go_wp2;go_ret;exact Up.e1 (Up.Bup HB)

-- told with loop.example/heirlooms/laws.eqValue

/-! ### laws_eqIntS: function 63 -/
def laws_eqIntS.l0 : Nat → List Int → List Int → Int → Option (Bool)
 | 0,_,_,_ => none
 | k + 1,x0,x1,x5 => if x5 < (x0.length : Int) then (if 0 ≤ x5 then (if x5 < (x1.length : Int) then (if (rd x0 x5) = (rd x1 x5) then (laws_eqIntS.l0 k x0 x1 (wrap64 (x5 + 1))) else (some false)) else (none)) else (none)) else (some true)
def laws_eqIntS.f (k : Nat) (l0 : List Int) (l1 : List Int) : Option (Bool):=if (l0.length : Int) = (l1.length : Int) then (laws_eqIntS.l0 k l0 l1 0) else (some false)
theorem laws_eqIntS.mono_l : ∀ k,(∀ y0 y1 y2,LeO (laws_eqIntS.l0 k y0 y1 y2) (laws_eqIntS.l0 (k + 1) y0 y1 y2))
 | 0 => fun _ _ _ r h => by simp [laws_eqIntS.l0] at h
 | k + 1 => by
  have ih0:=laws_eqIntS.mono_l k
  ·intro y0 y1 y2;unfold laws_eqIntS.l0;repeat' first
   | (with_reducible exact ih0 _ _ _)
   | (with_reducible exact LeO.refl _)
   | (with_reducible exact LeO.none _)
   | (with_reducible refine LeO.ite ?_ ?_)
   | (with_reducible refine LeO.bind ?_ (fun _ => ?_))
   | exact ih0 _ _ _
   | exact LeO.none _
   | refine LeO.ite ?_ ?_
   | refine LeO.bind ?_ (fun _ => ?_)
theorem laws_eqIntS.mono : ∀ a0 a1 k,LeO (laws_eqIntS.f k a0 a1) (laws_eqIntS.f (k + 1) a0 a1):=by
 intro a0 a1 k;have ih0:=laws_eqIntS.mono_l k;unfold laws_eqIntS.f
 repeat' first
   | (with_reducible exact ih0 _ _ _)
   | (with_reducible exact LeO.refl _)
   | (with_reducible exact LeO.none _)
   | (with_reducible refine LeO.ite ?_ ?_)
   | (with_reducible refine LeO.bind ?_ (fun _ => ?_))
   | exact ih0 _ _ _
   | exact LeO.none _
   | refine LeO.ite ?_ ?_
   | refine LeO.bind ?_ (fun _ => ?_)
set_option maxHeartbeats 8000000 in
set_option maxRecDepth 100000 in
theorem laws_eqIntS.calls (k : Nat) (A0 : Option Addr) (c0 : Nat) (l0 : List Int) (A1 : Option Addr) (c1 : Nat) (l1 : List Int) (r : Bool) (w : World) (hr0 : Kd.C (Kd.int .i64) w A0 l0.length l0) (hc0 : l0.length ≤ c0) (hr1 : Kd.C (Kd.int .i64) w A1 l1.length l1) (hc1 : l1.length ≤ c1) (h : laws_eqIntS.f k l0 l1 = some r) :
  Calls Try.prog 63 #[.slice A0 l0.length c0,.slice A1 l1.length c1] w fun e w' => e = .returned (.bool r) ∧ Drawn0 w w':=by
 have HR0:=Aside0.mk hr0;have HC0:=Aside0.mk hc0;clear hr0 hc0;have HR1:=Aside0.mk hr1;have HC1:=Aside0.mk hc1;clear hr1 hc1;have H : (if (l0.length : Int) = (l1.length : Int) then (laws_eqIntS.l0 k l0 l1 0) else (some false)) = some r:=h;clear h;by_cases c3 : (l0.length : Int) = (l1.length : Int)
 ·(rw [if_pos c3] at H);have c3b0 : ((l0.length : Int) == (l1.length : Int)) = true:=beq_iff_eq.mpr c3;have c3b1 : ((l0.length : Int) != (l1.length : Int)) = false:=bne_eq_false_iff_eq.mpr c3;(have c3b2 : (l0.length == l1.length) = true:=by first | simpa using c3 | (simp at c3 ⊢;omega));clear c3;have H':=Aside0.mk H;clear H;go_enter Try.func63,Try.ntmps63;go_wp2;(repeat (go_quiet (fail);try go_wp2));go_loopg [5] k (fun kq v5 w' => ∃ (x5_1 : Int),v5 = .int .i64 x5_1 ∧ Aside0 (laws_eqIntS.l0 kq l0 l1 x5_1 = some r) ∧ Aside0 (kq ≤ k) ∧ Drawn0 w w')
  case atStart => exact ⟨(0),(by first | rfl | (simp;done) | (simp [*];done)),H',⟨Nat.le_refl _⟩,by repeat (first | exact Drawn0.refl _ | apply Drawn0.step)⟩
  case round =>
   clear H';(try clear c1);(try clear p2);(try clear c3);(try clear c3b0);(try clear c3b1);(try clear c3b2);obtain ⟨x5_1,rfl,HA,HK1,⟨m1,rfl⟩⟩:=hrel;cases gk with
   | zero => exact absurd HA.out (by simp [laws_eqIntS.l0])
   | succ k1 =>
    have H:=HA.out;clear HA;(simp only [laws_eqIntS.l0] at H);by_cases c4 : x5_1 < (l0.length : Int)
    ·(rw [if_pos c4] at H);have c4b0:=decide_eq_true c4;clear c4;replace H:=Up.ip H;obtain ⟨c5,H⟩:=H;have c5b0:=decide_eq_true c5;clear c5;replace H:=Up.ip H;obtain ⟨c6,H⟩:=H;have c6b0:=decide_eq_true c6;clear c6;by_cases c7 : (rd l0 x5_1) = (rd l1 x5_1)
     ·(rw [if_pos c7] at H);have c7b0 : ((rd l0 x5_1) == (rd l1 x5_1)) = true:=beq_iff_eq.mpr c7;have c7b1 : ((rd l0 x5_1) != (rd l1 x5_1)) = false:=bne_eq_false_iff_eq.mpr c7;clear c7;have H':=Aside0.mk H;clear H;have p150 : 0 ≤ (x5_1 : Int):=Up.od;have q150 : x5_1 < (l0.length : Int):=Up.od;obtain ⟨ad150,e150,hx150_0⟩:=Kd.at_int HR0.out x5_1 p150 q150;cases e150;replace p150:=eq_true p150;replace q150:=eq_true q150;have p151 : 0 ≤ (x5_1 : Int):=Up.od;have q151 : x5_1 < (l1.length : Int):=Up.od;obtain ⟨ad151,e151,hx151_0⟩:=Kd.at_int HR1.out x5_1 p151 q151;cases e151;replace p151:=eq_true p151;replace q151:=eq_true q151;go_wp2;(repeat (go_quiet (fail);try go_wp2));go_roundg k1
      case measure => have:=HK1.out;omega
      case rel => exact ⟨(wrap64 (x5_1 + 1)),(by first | rfl | (simp;done) | (simp [*];done)),H',⟨by have:=HK1.out;omega⟩,by repeat (first | exact Drawn0.refl _ | apply Drawn0.step)⟩
     ·(rw [if_neg c7] at H);have c7b0 : ((rd l0 x5_1) == (rd l1 x5_1)) = false:=beq_eq_false_iff_ne.mpr c7;have c7b1 : ((rd l0 x5_1) != (rd l1 x5_1)) = true:=bne_iff_ne.mpr c7;obtain rfl:=Option.some.inj H;have p150 : 0 ≤ (x5_1 : Int):=Up.od;have q150 : x5_1 < (l0.length : Int):=Up.od;obtain ⟨ad150,e150,hx150_0⟩:=Kd.at_int HR0.out x5_1 p150 q150;cases e150;replace p150:=eq_true p150;replace q150:=eq_true q150;have p151 : 0 ≤ (x5_1 : Int):=Up.od;have q151 : x5_1 < (l1.length : Int):=Up.od;obtain ⟨ad151,e151,hx151_0⟩:=Kd.at_int HR1.out x5_1 p151 q151;cases e151;replace p151:=eq_true p151;replace q151:=eq_true q151;go_wp2;(repeat (go_quiet (fail);try go_wp2));go_ret;exact Up.e2
    ·(rw [if_neg c4] at H);have c4b0:=decide_eq_false c4;clear c4;obtain rfl:=Option.some.inj H;go_wp2;(repeat (go_quiet (fail);try go_wp2));go_ret;exact Up.e2
 ·(rw [if_neg c3] at H);have c3b0 : ((l0.length : Int) == (l1.length : Int)) = false:=beq_eq_false_iff_ne.mpr c3;have c3b1 : ((l0.length : Int) != (l1.length : Int)) = true:=bne_iff_ne.mpr c3;(have c3b2 : (l0.length == l1.length) = false:=by first | simpa using c3 | (simp at c3 ⊢;omega));obtain rfl:=Option.some.inj H;go_enter Try.func63,Try.ntmps63;go_wp2;(repeat (go_quiet (fail);try go_wp2));go_ret;exact Up.e2

/-! ### laws_eqValueS: function 62 -/
def laws_eqValueS.l0 : Nat → List (S27) → List (S27) → Int → Option (Bool)
 | 0,_,_,_ => none
 | k + 1,x0,x1,x5 => if x5 < (x0.length : Int) then (if 0 ≤ x5 then (if x5 < (x1.length : Int) then (((fun (a0_0 : ByteArray) (a0_1 : Int) (l0_2 : List (S27)) (l0_3 : List Int) (a1_0 : ByteArray) (a1_1 : Int) (l1_2 : List (S27)) (l1_3 : List Int) => if a0_0.toList = a1_0.toList then (if a0_1 = a1_1 then (((fun (l0 : List (S27)) (l1 : List (S27)) => if (l0.length : Int) = (l1.length : Int) then (laws_eqValueS.l0 k l0 l1 0) else (some false)) l0_2 l1_2).bind fun t154 => (if t154 = true then ((laws_eqIntS.f k l0_3 l1_3).bind fun t155 => (if t155 = true then (some true) else (some false))) else (some false))) else (some false)) else (some false)) ((rd_T27 x0 x5).f0) ((rd_T27 x0 x5).f1) ((rd_T27 x0 x5).f2) ((rd_T27 x0 x5).f3) ((rd_T27 x1 x5).f0) ((rd_T27 x1 x5).f1) ((rd_T27 x1 x5).f2) ((rd_T27 x1 x5).f3)).bind fun t149 => (if t149 = true then (laws_eqValueS.l0 k x0 x1 (wrap64 (x5 + 1))) else (some false))) else (none)) else (none)) else (some true)
def laws_eqValueS.f (k : Nat) (l0 : List (S27)) (l1 : List (S27)) : Option (Bool):=if (l0.length : Int) = (l1.length : Int) then (laws_eqValueS.l0 k l0 l1 0) else (some false)
def laws_eqValue.f (k : Nat) (a0_0 : ByteArray) (a0_1 : Int) (l0_2 : List (S27)) (l0_3 : List Int) (a1_0 : ByteArray) (a1_1 : Int) (l1_2 : List (S27)) (l1_3 : List Int) : Option (Bool):=if a0_0.toList = a1_0.toList then (if a0_1 = a1_1 then ((laws_eqValueS.f k l0_2 l1_2).bind fun t154 => (if t154 = true then ((laws_eqIntS.f k l0_3 l1_3).bind fun t155 => (if t155 = true then (some true) else (some false))) else (some false))) else (some false)) else (some false)
theorem laws_eqValueS.l0_eq (k : Nat) (x0 : List (S27)) (x1 : List (S27)) (x5 : Int) : laws_eqValueS.l0 (k + 1) x0 x1 x5 = if x5 < (x0.length : Int) then (if 0 ≤ x5 then (if x5 < (x1.length : Int) then ((laws_eqValue.f k ((rd_T27 x0 x5).f0) ((rd_T27 x0 x5).f1) ((rd_T27 x0 x5).f2) ((rd_T27 x0 x5).f3) ((rd_T27 x1 x5).f0) ((rd_T27 x1 x5).f1) ((rd_T27 x1 x5).f2) ((rd_T27 x1 x5).f3)).bind fun t149 => (if t149 = true then (laws_eqValueS.l0 k x0 x1 (wrap64 (x5 + 1))) else (some false))) else (none)) else (none)) else (some true):=rfl
theorem laws_eqValueS.mono_l : ∀ k,(∀ y0 y1 y2,LeO (laws_eqValueS.l0 k y0 y1 y2) (laws_eqValueS.l0 (k + 1) y0 y1 y2))
 | 0 => fun _ _ _ r h => by simp [laws_eqValueS.l0] at h
 | k + 1 => by
  have ih0:=laws_eqValueS.mono_l k
  ·intro y0 y1 y2;unfold laws_eqValueS.l0;dsimp only;repeat' first
   | (with_reducible exact ih0 _ _ _)
   | (with_reducible exact laws_eqIntS.mono _ _ _)
   | exact laws_eqIntS.mono _ _ _
   | (with_reducible exact LeO.refl _)
   | (with_reducible exact LeO.none _)
   | (with_reducible refine LeO.ite ?_ ?_)
   | (with_reducible refine LeO.bind ?_ (fun _ => ?_))
   | exact ih0 _ _ _
   | exact LeO.none _
   | refine LeO.ite ?_ ?_
   | refine LeO.bind ?_ (fun _ => ?_)
theorem laws_eqValueS.mono : ∀ a0 a1 k,LeO (laws_eqValueS.f k a0 a1) (laws_eqValueS.f (k + 1) a0 a1):=by
 intro a0 a1 k;have ih0:=laws_eqValueS.mono_l k;unfold laws_eqValueS.f
 repeat' first
   | (with_reducible exact ih0 _ _ _)
   | (with_reducible exact laws_eqIntS.mono _ _ _)
   | exact laws_eqIntS.mono _ _ _
   | (with_reducible exact LeO.refl _)
   | (with_reducible exact LeO.none _)
   | (with_reducible refine LeO.ite ?_ ?_)
   | (with_reducible refine LeO.bind ?_ (fun _ => ?_))
   | exact ih0 _ _ _
   | exact LeO.none _
   | refine LeO.ite ?_ ?_
   | refine LeO.bind ?_ (fun _ => ?_)
def laws_eqValueS.T6 : Bool × List (List Nat × List Nat):=(true,[([],[]),([],[]),([0,1],[0,1]),([2],[2]),([],[]),([],[]),([4,5],[4,5]),([6],[6]),([3,7],[3,7]),([8],[8])])
def laws_eqValueS.B6 : List Nat:=[0,0,3,7,0,0,48,112,255,511]
theorem laws_eqValueS.tab6 : rtab .any (opsOf Try.f62 6) = laws_eqValueS.T6:=by kernel_rfl
theorem laws_eqValueS.bits6 : waitsOk laws_eqValueS.T6.2 laws_eqValueS.B6 = true:=by kernel_rfl
theorem laws_eqValue.mono : ∀ a0 a1 a2 a3 a4 a5 a6 a7 k,LeO (laws_eqValue.f k a0 a1 a2 a3 a4 a5 a6 a7) (laws_eqValue.f (k + 1) a0 a1 a2 a3 a4 a5 a6 a7):=by
 intro a0 a1 a2 a3 a4 a5 a6 a7 k;unfold laws_eqValue.f
 repeat' first
   | (with_reducible exact laws_eqIntS.mono _ _ _)
   | (with_reducible exact laws_eqValueS.mono _ _ _)
   | (with_reducible exact LeO.refl _)
   | (with_reducible exact LeO.none _)
   | (with_reducible refine LeO.ite ?_ ?_)
   | (with_reducible refine LeO.bind ?_ (fun _ => ?_))
   | exact laws_eqIntS.mono _ _ _
   | exact laws_eqValueS.mono _ _ _
   | exact LeO.none _
   | refine LeO.ite ?_ ?_
   | refine LeO.bind ?_ (fun _ => ?_)
/-! ### of laws_eqValue: function 24 -/
set_option maxHeartbeats 8000000 in
set_option maxRecDepth 100000 in
theorem laws_eqValue.calls_of (k : Nat) (hS_ : ∀ (A0 : Option Addr) (c0 : Nat) (l0 : List (S27)) (A1 : Option Addr) (c1 : Nat) (l1 : List (S27)) (r : Bool) (w : World) (hr0 : Kd.C k27 w A0 l0.length l0) (hc0 : l0.length ≤ c0) (hr1 : Kd.C k27 w A1 l1.length l1) (hc1 : l1.length ≤ c1) (h : laws_eqValueS.f k l0 l1 = some r),Calls Try.prog 62 #[.slice A0 l0.length c0,.slice A1 l1.length c1] w fun e w' => e = .returned (.bool r) ∧ Below w.heap.size w w') (a0_0 : ByteArray) (a0_1 : Int) (A0_2 : Option Addr) (c0_2 : Nat) (l0_2 : List (S27)) (A0_3 : Option Addr) (c0_3 : Nat) (l0_3 : List Int) (a1_0 : ByteArray) (a1_1 : Int) (A1_2 : Option Addr) (c1_2 : Nat) (l1_2 : List (S27)) (A1_3 : Option Addr) (c1_3 : Nat) (l1_3 : List Int) (r : Bool) (w : World) (hr0_2 : Kd.C k27 w A0_2 l0_2.length l0_2) (hc0_2 : l0_2.length ≤ c0_2) (hr0_3 : Kd.C (Kd.int .i64) w A0_3 l0_3.length l0_3) (hc0_3 : l0_3.length ≤ c0_3) (hr1_2 : Kd.C k27 w A1_2 l1_2.length l1_2) (hc1_2 : l1_2.length ≤ c1_2) (hr1_3 : Kd.C (Kd.int .i64) w A1_3 l1_3.length l1_3) (hc1_3 : l1_3.length ≤ c1_3) (h : laws_eqValue.f k a0_0 a0_1 l0_2 l0_3 a1_0 a1_1 l1_2 l1_3 = some r) :
  Calls Try.prog 24 #[.agg #[.string a0_0,.int .i64 a0_1,.slice A0_2 l0_2.length c0_2,.slice A0_3 l0_3.length c0_3],.agg #[.string a1_0,.int .i64 a1_1,.slice A1_2 l1_2.length c1_2,.slice A1_3 l1_3.length c1_3]] w fun e w' => e = .returned (.bool r) ∧ Below w.heap.size w w':=by
 have hu27:=Try.underlying27;have HR0_2:=Aside0.mk hr0_2;have HC0_2:=Aside0.mk hc0_2;clear hr0_2 hc0_2;have HR0_3:=Aside0.mk hr0_3;have HC0_3:=Aside0.mk hc0_3;clear hr0_3 hc0_3;have HR1_2:=Aside0.mk hr1_2;have HC1_2:=Aside0.mk hc1_2;clear hr1_2 hc1_2;have HR1_3:=Aside0.mk hr1_3;have HC1_3:=Aside0.mk hc1_3;clear hr1_3 hc1_3;have HB:=Aside0.mk (Below.refl w.heap.size w);have H : (if a0_0.toList = a1_0.toList then (if a0_1 = a1_1 then ((laws_eqValueS.f k l0_2 l1_2).bind fun t154 => (if t154 = true then ((laws_eqIntS.f k l0_3 l1_3).bind fun t155 => (if t155 = true then (some true) else (some false))) else (some false))) else (some false)) else (some false)) = some r:=h;clear h;by_cases c3 : a0_0.toList = a1_0.toList
 ·(rw [if_pos c3] at H);have c3b0 : (a0_0.toList == a1_0.toList) = true:=beq_iff_eq.mpr c3;have c3b1 : (a0_0.toList != a1_0.toList) = false:=bne_eq_false_iff_eq.mpr c3;clear c3;by_cases c4 : a0_1 = a1_1
  ·(rw [if_pos c4] at H);have c4b0 : (a0_1 == a1_1) = true:=beq_iff_eq.mpr c4;have c4b1 : (a0_1 != a1_1) = false:=bne_eq_false_iff_eq.mpr c4;clear c4;replace H:=Up.bd H;obtain ⟨t154,A5,H⟩:=H;(try dsimp only at H);by_cases c6 : t154 = true
   ·subst c6;(rw [if_pos rfl] at H);replace H:=Up.bd H;obtain ⟨t155,A7,H⟩:=H;(try dsimp only at H);by_cases c8 : t155 = true
    ·subst c8;(rw [if_pos rfl] at H);obtain rfl:=Option.some.inj H;go_enter Try.func24,Try.ntmps24;go_wp2_with (first | ((with_reducible refine gate_dst (N:=2) rfl ?_);refine Up.bx 2 27 #[.string a0_0,.int .i64 a0_1,.slice A0_2 l0_2.length c0_2,.slice A0_3 l0_3.length c0_3] ?_;intro gb152 hg w9 hbox hb;have BK152:=Aside0.mk (hbox);have GW152:=Up.gw hg HB;have GE152:=Up.gw hg HB;replace HB:=Up.BB HB hb;clear hb hbox hg) | ((with_reducible refine gate_dst (N:=3) rfl ?_);refine Up.bx 3 27 #[.string a1_0,.int .i64 a1_1,.slice A1_2 l1_2.length c1_2,.slice A1_3 l1_3.length c1_3] ?_;intro gb153 hg w10 hbox hb;have BK153:=Aside0.mk (hbox);have GW153:=Up.gw hg HB;have GE153:=Up.gw hg HB;replace HB:=Aside0.mk (below_step (Up.Bx HB) hb);have NB152_153:=Up.nl hg BK152;have NB153_152:=Up.ng hg BK152;replace BK152:=Up.KB BK152 hb;clear hb hbox hg;have hnb11:=NB152_153.out;have hnc11:=NB153_152.out;obtain ⟨hcz12_0,hcz12_1,hcz12_2,hcz12_3,hfz12_0,hfz12_1,hfz12_2,hfz12_3⟩:=Up.d4 BK152;obtain ⟨hcz13_0,hcz13_1,hcz13_2,hcz13_3,hfz13_0,hfz13_1,hfz13_2,hfz13_3⟩:=Up.d4 BK153) | ((with_reducible refine gate_callee (f:=62) rfl ?_);refine Up.gl (some 19) Try.func62 #[.slice A0_2 l0_2.length c0_2,.slice A1_2 l1_2.length c1_2] ?_;(with_reducible refine (hS_ _ _ l0_2 _ _ l1_2 true _ ?side1 ?side2 ?side3 ?side4 A5.out).mono ?_);(case side1 => exact Up.Cx HR0_2 HB);(case side2 => exact HC0_2.out);(case side3 => exact Up.Cx HR1_2 HB);(case side4 => exact HC1_2.out);rintro e w14 ⟨rfl,hb⟩;refine ⟨_,rfl,?_⟩;replace BK152:=Up.KB BK152 hb;replace BK153:=Up.KB BK153 hb;replace HB:=Aside0.mk (below_step (Up.Bx HB) hb);(try clear hb);(try clear hb2);(try clear hk);(try clear hi);obtain ⟨hcz15_0,hcz15_1,hcz15_2,hcz15_3,hfz15_0,hfz15_1,hfz15_2,hfz15_3⟩:=Up.d4 BK152;obtain ⟨hcz16_0,hcz16_1,hcz16_2,hcz16_3,hfz16_0,hfz16_1,hfz16_2,hfz16_3⟩:=Up.d4 BK153) | ((with_reducible refine gate_callee (f:=63) rfl ?_);refine Up.gl (some 25) Try.func63 #[.slice A0_3 l0_3.length c0_3,.slice A1_3 l1_3.length c1_3] ?_;(with_reducible refine (laws_eqIntS.calls k _ _ l0_3 _ _ l1_3 true _ ?side1 ?side2 ?side3 ?side4 A7.out).mono ?_);(case side1 => exact Up.Cx HR0_3 HB);(case side2 => exact HC0_3.out);(case side3 => exact Up.Cx HR1_3 HB);(case side4 => exact HC1_3.out);rintro e w' ⟨rfl,⟨nd,rfl⟩⟩;refine ⟨_,rfl,?_⟩));go_ret;exact Up.e1 (Up.Bx HB)
    ·replace c8:=Bool.eq_false_iff.mpr c8;subst c8;(rw [if_neg (show ¬ (false = true) by decide)] at H);obtain rfl:=Option.some.inj H;go_enter Try.func24,Try.ntmps24;go_wp2_with (first | ((with_reducible refine gate_dst (N:=2) rfl ?_);refine Up.bx 2 27 #[.string a0_0,.int .i64 a0_1,.slice A0_2 l0_2.length c0_2,.slice A0_3 l0_3.length c0_3] ?_;intro gb152 hg w17 hbox hb;have BK152:=Aside0.mk (hbox);have GW152:=Up.gw hg HB;have GE152:=Up.gw hg HB;replace HB:=Up.BB HB hb;clear hb hbox hg) | ((with_reducible refine gate_dst (N:=3) rfl ?_);refine Up.bx 3 27 #[.string a1_0,.int .i64 a1_1,.slice A1_2 l1_2.length c1_2,.slice A1_3 l1_3.length c1_3] ?_;intro gb153 hg w18 hbox hb;have BK153:=Aside0.mk (hbox);have GW153:=Up.gw hg HB;have GE153:=Up.gw hg HB;replace HB:=Aside0.mk (below_step (Up.Bx HB) hb);have NB152_153:=Up.nl hg BK152;have NB153_152:=Up.ng hg BK152;replace BK152:=Up.KB BK152 hb;clear hb hbox hg;have hnb19:=NB152_153.out;have hnc19:=NB153_152.out;obtain ⟨hcz20_0,hcz20_1,hcz20_2,hcz20_3,hfz20_0,hfz20_1,hfz20_2,hfz20_3⟩:=Up.d4 BK152;obtain ⟨hcz21_0,hcz21_1,hcz21_2,hcz21_3,hfz21_0,hfz21_1,hfz21_2,hfz21_3⟩:=Up.d4 BK153) | ((with_reducible refine gate_callee (f:=62) rfl ?_);refine Up.gl (some 19) Try.func62 #[.slice A0_2 l0_2.length c0_2,.slice A1_2 l1_2.length c1_2] ?_;(with_reducible refine (hS_ _ _ l0_2 _ _ l1_2 true _ ?side1 ?side2 ?side3 ?side4 A5.out).mono ?_);(case side1 => exact Up.Cx HR0_2 HB);(case side2 => exact HC0_2.out);(case side3 => exact Up.Cx HR1_2 HB);(case side4 => exact HC1_2.out);rintro e w22 ⟨rfl,hb⟩;refine ⟨_,rfl,?_⟩;replace BK152:=Up.KB BK152 hb;replace BK153:=Up.KB BK153 hb;replace HB:=Aside0.mk (below_step (Up.Bx HB) hb);(try clear hb);(try clear hb2);(try clear hk);(try clear hi);obtain ⟨hcz23_0,hcz23_1,hcz23_2,hcz23_3,hfz23_0,hfz23_1,hfz23_2,hfz23_3⟩:=Up.d4 BK152;obtain ⟨hcz24_0,hcz24_1,hcz24_2,hcz24_3,hfz24_0,hfz24_1,hfz24_2,hfz24_3⟩:=Up.d4 BK153) | ((with_reducible refine gate_callee (f:=63) rfl ?_);refine Up.gl (some 25) Try.func63 #[.slice A0_3 l0_3.length c0_3,.slice A1_3 l1_3.length c1_3] ?_;(with_reducible refine (laws_eqIntS.calls k _ _ l0_3 _ _ l1_3 false _ ?side1 ?side2 ?side3 ?side4 A7.out).mono ?_);(case side1 => exact Up.Cx HR0_3 HB);(case side2 => exact HC0_3.out);(case side3 => exact Up.Cx HR1_3 HB);(case side4 => exact HC1_3.out);rintro e w' ⟨rfl,⟨nd,rfl⟩⟩;refine ⟨_,rfl,?_⟩));go_ret;exact Up.e1 (Up.Bx HB)
   ·replace c6:=Bool.eq_false_iff.mpr c6;subst c6;(rw [if_neg (show ¬ (false = true) by decide)] at H);obtain rfl:=Option.some.inj H;go_enter Try.func24,Try.ntmps24;go_wp2_with (first | ((with_reducible refine gate_dst (N:=2) rfl ?_);refine Up.bx 2 27 #[.string a0_0,.int .i64 a0_1,.slice A0_2 l0_2.length c0_2,.slice A0_3 l0_3.length c0_3] ?_;intro gb152 hg w25 hbox hb;have BK152:=Aside0.mk (hbox);have GW152:=Up.gw hg HB;have GE152:=Up.gw hg HB;replace HB:=Up.BB HB hb;clear hb hbox hg) | ((with_reducible refine gate_dst (N:=3) rfl ?_);refine Up.bx 3 27 #[.string a1_0,.int .i64 a1_1,.slice A1_2 l1_2.length c1_2,.slice A1_3 l1_3.length c1_3] ?_;intro gb153 hg w26 hbox hb;have BK153:=Aside0.mk (hbox);have GW153:=Up.gw hg HB;have GE153:=Up.gw hg HB;replace HB:=Aside0.mk (below_step (Up.Bx HB) hb);have NB152_153:=Up.nl hg BK152;have NB153_152:=Up.ng hg BK152;replace BK152:=Up.KB BK152 hb;clear hb hbox hg;have hnb27:=NB152_153.out;have hnc27:=NB153_152.out;obtain ⟨hcz28_0,hcz28_1,hcz28_2,hcz28_3,hfz28_0,hfz28_1,hfz28_2,hfz28_3⟩:=Up.d4 BK152;obtain ⟨hcz29_0,hcz29_1,hcz29_2,hcz29_3,hfz29_0,hfz29_1,hfz29_2,hfz29_3⟩:=Up.d4 BK153) | ((with_reducible refine gate_callee (f:=62) rfl ?_);refine Up.gl (some 19) Try.func62 #[.slice A0_2 l0_2.length c0_2,.slice A1_2 l1_2.length c1_2] ?_;(with_reducible refine (hS_ _ _ l0_2 _ _ l1_2 false _ ?side1 ?side2 ?side3 ?side4 A5.out).mono ?_);(case side1 => exact Up.Cx HR0_2 HB);(case side2 => exact HC0_2.out);(case side3 => exact Up.Cx HR1_2 HB);(case side4 => exact HC1_2.out);rintro e w30 ⟨rfl,hb⟩;refine ⟨_,rfl,?_⟩;replace BK152:=Up.KB BK152 hb;replace BK153:=Up.KB BK153 hb;replace HB:=Aside0.mk (below_step (Up.Bx HB) hb);(try clear hb);(try clear hb2);(try clear hk);(try clear hi)));go_ret;exact Up.e1 (Up.Bx HB)
  ·(rw [if_neg c4] at H);have c4b0 : (a0_1 == a1_1) = false:=beq_eq_false_iff_ne.mpr c4;have c4b1 : (a0_1 != a1_1) = true:=bne_iff_ne.mpr c4;obtain rfl:=Option.some.inj H;go_enter Try.func24,Try.ntmps24;go_wp2_with (first | ((with_reducible refine gate_dst (N:=2) rfl ?_);refine Up.bx 2 27 #[.string a0_0,.int .i64 a0_1,.slice A0_2 l0_2.length c0_2,.slice A0_3 l0_3.length c0_3] ?_;intro gb152 hg w31 hbox hb;have BK152:=Aside0.mk (hbox);have GW152:=Up.gw hg HB;have GE152:=Up.gw hg HB;replace HB:=Up.BB HB hb;clear hb hbox hg) | ((with_reducible refine gate_dst (N:=3) rfl ?_);refine Up.bx 3 27 #[.string a1_0,.int .i64 a1_1,.slice A1_2 l1_2.length c1_2,.slice A1_3 l1_3.length c1_3] ?_;intro gb153 hg w32 hbox hb;have BK153:=Aside0.mk (hbox);have GW153:=Up.gw hg HB;have GE153:=Up.gw hg HB;replace HB:=Aside0.mk (below_step (Up.Bx HB) hb);have NB152_153:=Up.nl hg BK152;have NB153_152:=Up.ng hg BK152;replace BK152:=Up.KB BK152 hb;clear hb hbox hg;have hnb33:=NB152_153.out;have hnc33:=NB153_152.out;obtain ⟨hcz34_0,hcz34_1,hcz34_2,hcz34_3,hfz34_0,hfz34_1,hfz34_2,hfz34_3⟩:=Up.d4 BK152;obtain ⟨hcz35_0,hcz35_1,hcz35_2,hcz35_3,hfz35_0,hfz35_1,hfz35_2,hfz35_3⟩:=Up.d4 BK153));go_ret;exact Up.e1 (Up.Bx HB)
 ·(rw [if_neg c3] at H);have c3b0 : (a0_0.toList == a1_0.toList) = false:=beq_eq_false_iff_ne.mpr c3;have c3b1 : (a0_0.toList != a1_0.toList) = true:=bne_iff_ne.mpr c3;obtain rfl:=Option.some.inj H;go_enter Try.func24,Try.ntmps24;go_wp2_with (first | ((with_reducible refine gate_dst (N:=2) rfl ?_);refine Up.bx 2 27 #[.string a0_0,.int .i64 a0_1,.slice A0_2 l0_2.length c0_2,.slice A0_3 l0_3.length c0_3] ?_;intro gb152 hg w36 hbox hb;have BK152:=Aside0.mk (hbox);have GW152:=Up.gw hg HB;have GE152:=Up.gw hg HB;replace HB:=Up.BB HB hb;clear hb hbox hg) | ((with_reducible refine gate_dst (N:=3) rfl ?_);refine Up.bx 3 27 #[.string a1_0,.int .i64 a1_1,.slice A1_2 l1_2.length c1_2,.slice A1_3 l1_3.length c1_3] ?_;intro gb153 hg w37 hbox hb;have BK153:=Aside0.mk (hbox);have GW153:=Up.gw hg HB;have GE153:=Up.gw hg HB;replace HB:=Aside0.mk (below_step (Up.Bx HB) hb);have NB152_153:=Up.nl hg BK152;have NB153_152:=Up.ng hg BK152;replace BK152:=Up.KB BK152 hb;clear hb hbox hg;have hnb38:=NB152_153.out;have hnc38:=NB153_152.out;obtain ⟨hcz39_0,hcz39_1,hcz39_2,hcz39_3,hfz39_0,hfz39_1,hfz39_2,hfz39_3⟩:=Up.d4 BK152;obtain ⟨hcz40_0,hcz40_1,hcz40_2,hcz40_3,hfz40_0,hfz40_1,hfz40_2,hfz40_3⟩:=Up.d4 BK153));go_ret;exact Up.e1 (Up.Bx HB)
set_option maxHeartbeats 8000000 in
set_option maxRecDepth 100000 in
theorem laws_eqValueS.calls (k : Nat) : ∀ (A0 : Option Addr) (c0 : Nat) (l0 : List (S27)) (A1 : Option Addr) (c1 : Nat) (l1 : List (S27)) (r : Bool) (w : World) (hr0 : Kd.C k27 w A0 l0.length l0) (hc0 : l0.length ≤ c0) (hr1 : Kd.C k27 w A1 l1.length l1) (hc1 : l1.length ≤ c1) (h : laws_eqValueS.f k l0 l1 = some r),Calls Try.prog 62 #[.slice A0 l0.length c0,.slice A1 l1.length c1] w fun e w' => e = .returned (.bool r) ∧ Below w.heap.size w w':=by
 refine Nat.strongRecOn (motive:=fun k => ∀ (A0 : Option Addr) (c0 : Nat) (l0 : List (S27)) (A1 : Option Addr) (c1 : Nat) (l1 : List (S27)) (r : Bool) (w : World) (hr0 : Kd.C k27 w A0 l0.length l0) (hc0 : l0.length ≤ c0) (hr1 : Kd.C k27 w A1 l1.length l1) (hc1 : l1.length ≤ c1) (h : laws_eqValueS.f k l0 l1 = some r),Calls Try.prog 62 #[.slice A0 l0.length c0,.slice A1 l1.length c1] w fun e w' => e = .returned (.bool r) ∧ Below w.heap.size w w') k (fun k ihS_ => ?_);intro A0 c0 l0 A1 c1 l1 r w hr0 hc0 hr1 hc1 h;have hu27:=Try.underlying27;have HR0:=Aside0.mk hr0;have HC0:=Aside0.mk hc0;clear hr0 hc0;have HR1:=Aside0.mk hr1;have HC1:=Aside0.mk hc1;clear hr1 hc1;have HB:=Aside0.mk (Below.refl w.heap.size w);have H : (if (l0.length : Int) = (l1.length : Int) then (laws_eqValueS.l0 k l0 l1 0) else (some false)) = some r:=h;clear h;by_cases c3 : (l0.length : Int) = (l1.length : Int)
 ·(rw [if_pos c3] at H);have c3b0 : ((l0.length : Int) == (l1.length : Int)) = true:=beq_iff_eq.mpr c3;have c3b1 : ((l0.length : Int) != (l1.length : Int)) = false:=bne_eq_false_iff_eq.mpr c3;(have c3b2 : (l0.length == l1.length) = true:=by first | simpa using c3 | (simp at c3 ⊢;omega));clear c3;have H':=Aside0.mk H;clear H;go_enter Try.func62,Try.ntmps62;go_wp2;go_loopg [5] k (fun kq v5 w' => ∃ (x5_1 : Int),v5 = .int .i64 x5_1 ∧ Aside0 (laws_eqValueS.l0 kq l0 l1 x5_1 = some r) ∧ Aside0 (kq ≤ k) ∧ Aside0 (Below w.heap.size w w'))
  case atStart => exact ⟨(0),(by first | rfl | (simp;done) | (simp [*];done)),H',⟨Nat.le_refl _⟩,⟨Up.Bup HB⟩⟩
  case round =>
   clear H';(try clear c1);(try clear p2);(try clear c3);(try clear c3b0);(try clear c3b1);(try clear c3b2);obtain ⟨x5_1,rfl,HA,HK1,HB⟩:=hrel;cases gk with
   | zero => exact absurd HA.out (by simp [laws_eqValueS.l0])
   | succ k1 =>
    have H:=HA.out;clear HA;(simp only [laws_eqValueS.l0_eq] at H);by_cases c4 : x5_1 < (l0.length : Int)
    ·(rw [if_pos c4] at H);have c4b0:=decide_eq_true c4;clear c4;replace H:=Up.ip H;obtain ⟨c5,H⟩:=H;have c5b0:=decide_eq_true c5;clear c5;replace H:=Up.ip H;obtain ⟨c6,H⟩:=H;have c6b0:=decide_eq_true c6;clear c6;replace H:=Up.bd H;obtain ⟨t149,A7,H⟩:=H;(try dsimp only at H);by_cases c8 : t149 = true
     ·subst c8;(rw [if_pos rfl] at H);have H':=Aside0.mk H;clear H;(try go_wp2);replace HB:=Aside0.mk (below_drew1 HB.out);have p147 : 0 ≤ (x5_1 : Int):=Up.od;have q147 : x5_1 < (l0.length : Int):=Up.od;obtain ⟨ad147,A147_2,c147_2,A147_3,c147_3,e147,hx147_0,hx147_1,hx147_2,hx147_3,hl147_2,hi147_2,hl147_3,hi147_3⟩:=at_T27 HR0.out x5_1 p147 q147;have hw147_3:=hx147_3;have hw147_2:=hx147_2;have hw147_1:=hx147_1;have hw147_0:=hx147_0;cases e147;replace hx147_0:=Up.hc HB hx147_0;replace hx147_1:=Up.hc HB hx147_1;replace hx147_2:=Up.hc HB hx147_2;replace hx147_3:=Up.hc HB hx147_3;have HR147_2:=Aside0.mk hi147_2;have HC147_2:=Aside0.mk hl147_2;clear hi147_2 hl147_2;have HR147_3:=Aside0.mk hi147_3;have HC147_3:=Aside0.mk hl147_3;clear hi147_3 hl147_3;replace p147:=eq_true p147;replace q147:=eq_true q147;have p148 : 0 ≤ (x5_1 : Int):=Up.od;have q148 : x5_1 < (l1.length : Int):=Up.od;obtain ⟨ad148,A148_2,c148_2,A148_3,c148_3,e148,hx148_0,hx148_1,hx148_2,hx148_3,hl148_2,hi148_2,hl148_3,hi148_3⟩:=at_T27 HR1.out x5_1 p148 q148;have hw148_3:=hx148_3;have hw148_2:=hx148_2;have hw148_1:=hx148_1;have hw148_0:=hx148_0;cases e148;replace hx148_0:=Up.hc HB hx148_0;replace hx148_1:=Up.hc HB hx148_1;replace hx148_2:=Up.hc HB hx148_2;replace hx148_3:=Up.hc HB hx148_3;have HR148_2:=Aside0.mk hi148_2;have HC148_2:=Aside0.mk hl148_2;clear hi148_2 hl148_2;have HR148_3:=Aside0.mk hi148_3;have HC148_3:=Aside0.mk hl148_3;clear hi148_3 hl148_3;replace p148:=eq_true p148;replace q148:=eq_true q148;refine start_ (n:=10) (S:=fun w' => w'.cell? (ad147.add ((x5_1).toNat * 4)) = some (.string ((rd_T27 l0 x5_1).f0)) ∧ w'.cell? ⟨(ad147.add ((x5_1).toNat * 4)).block,(ad147.add ((x5_1).toNat * 4)).off + 1,none⟩ = some (.int .i64 ((rd_T27 l0 x5_1).f1)) ∧ w'.cell? ⟨(ad147.add ((x5_1).toNat * 4)).block,(ad147.add ((x5_1).toNat * 4)).off + 2,none⟩ = some (.slice A147_2 ((rd_T27 l0 x5_1).f2).length c147_2) ∧ w'.cell? ⟨(ad147.add ((x5_1).toNat * 4)).block,(ad147.add ((x5_1).toNat * 4)).off + 3,none⟩ = some (.slice A147_3 ((rd_T27 l0 x5_1).f3).length c147_3) ∧ w'.cell? (ad148.add ((x5_1).toNat * 4)) = some (.string ((rd_T27 l1 x5_1).f0)) ∧ w'.cell? ⟨(ad148.add ((x5_1).toNat * 4)).block,(ad148.add ((x5_1).toNat * 4)).off + 1,none⟩ = some (.int .i64 ((rd_T27 l1 x5_1).f1)) ∧ w'.cell? ⟨(ad148.add ((x5_1).toNat * 4)).block,(ad148.add ((x5_1).toNat * 4)).off + 2,none⟩ = some (.slice A148_2 ((rd_T27 l1 x5_1).f2).length c148_2) ∧ w'.cell? ⟨(ad148.add ((x5_1).toNat * 4)).block,(ad148.add ((x5_1).toNat * 4)).off + 3,none⟩ = some (.slice A148_3 ((rd_T27 l1 x5_1).f3).length c148_3)) (ds:=[]) #[false,false,false,false,false,false,false,false,false,false] (by kernel_rfl) rfl rfl ⟨(Up.hd HB hw147_0),(Up.hd HB hw147_1),(Up.hd HB hw147_2),(Up.hd HB hw147_3),(Up.hd HB hw148_0),(Up.hd HB hw148_1),(Up.hd HB hw148_2),(Up.hd HB hw148_3)⟩ (fun hHeld => ?_);refine with_tabW laws_eqValueS.tab6 laws_eqValueS.bits6 (fun HT_ HW_ => ?_);(generalize wr.drew = w9 at HB HR147_2 HR147_3 HR148_2 HR148_3 hx147_0 hx147_1 hx147_2 hx147_3 hx148_0 hx148_1 hx148_2 hx148_3 hHeld ⊢);refine Up.pu 0 (some 17) HT_ ?_;refine Up.pu 1 (some 18) HT_ ?_;refine Up.pu 2 (some 19) HT_ ?_;refine Up.pu 4 (some 21) HT_ ?_;refine Up.pu 5 (some 22) HT_ ?_;refine Up.pu 6 (some 23) HT_ ?_;refine Up.tk 3 (some 20) HT_ HW_ hHeld ?_ (hy:=by rintro w' ⟨s0,s1,s2,s3,s4,s5,s6,s7⟩;go_simp;with_reducible rfl);refine Up.tk 7 (some 24) HT_ HW_ hHeld ?_ (hy:=by rintro w' ⟨s0,s1,s2,s3,s4,s5,s6,s7⟩;go_simp;with_reducible rfl);refine Up.on 8 (some 25) HT_ (fun K hK => ?_);refine Up.go Try.func24 #[.agg #[.string ((rd_T27 l0 x5_1).f0),.int .i64 ((rd_T27 l0 x5_1).f1),.slice A147_2 ((rd_T27 l0 x5_1).f2).length c147_2,.slice A147_3 ((rd_T27 l0 x5_1).f3).length c147_3],.agg #[.string ((rd_T27 l1 x5_1).f0),.int .i64 ((rd_T27 l1 x5_1).f1),.slice A148_2 ((rd_T27 l1 x5_1).f2).length c148_2,.slice A148_3 ((rd_T27 l1 x5_1).f3).length c148_3]] ?_
      with_reducible refine (laws_eqValue.calls_of k1 (ihS_ k1 (by have h_:=HK1.out;omega)) ((rd_T27 l0 x5_1).f0) ((rd_T27 l0 x5_1).f1) _ _ ((rd_T27 l0 x5_1).f2) _ _ ((rd_T27 l0 x5_1).f3) ((rd_T27 l1 x5_1).f0) ((rd_T27 l1 x5_1).f1) _ _ ((rd_T27 l1 x5_1).f2) _ _ ((rd_T27 l1 x5_1).f3) true _ ?side1 ?side2 ?side3 ?side4 ?side5 ?side6 ?side7 ?side8 A7.out).mono ?_
      (case side1 => exact Up.Cx HR147_2 HB);(case side2 => exact HC147_2.out);(case side3 => exact Up.Cx HR147_3 HB);(case side4 => exact HC147_3.out);(case side5 => exact Up.Cx HR148_2 HB);(case side6 => exact HC148_2.out);(case side7 => exact Up.Cx HR148_3 HB);(case side8 => exact HC148_3.out);rintro e w10 ⟨rfl,hb⟩;refine ⟨_,rfl,?_⟩;replace HB:=Up.BB HB hb;(try clear hb);(try clear hb2);(try clear hk);(try clear hi);refine hK.out _ _ ⟨(Up.hd HB hw147_0),(Up.hd HB hw147_1),(Up.hd HB hw147_2),(Up.hd HB hw147_3),(Up.hd HB hw148_0),(Up.hd HB hw148_1),(Up.hd HB hw148_2),(Up.hd HB hw148_3)⟩ (fun hHeld => ?_);clear hK K;refine Up.nm 25 ?_;refine Up.pu 9 (some 26) HT_ ?_;refine done_ (done_of HT_.out (by kernel_rfl)) ?_;(try go_wp2);go_roundg k1
      case measure => have:=HK1.out;omega
      case rel => exact ⟨(wrap64 (x5_1 + 1)),(by first | rfl | (simp;done) | (simp [*];done)),H',⟨by have:=HK1.out;omega⟩,⟨Up.Bup HB⟩⟩
     ·replace c8:=Bool.eq_false_iff.mpr c8;subst c8;(rw [if_neg (show ¬ (false = true) by decide)] at H);obtain rfl:=Option.some.inj H;(try go_wp2);replace HB:=Aside0.mk (below_drew1 HB.out);have p147 : 0 ≤ (x5_1 : Int):=Up.od;have q147 : x5_1 < (l0.length : Int):=Up.od;obtain ⟨ad147,A147_2,c147_2,A147_3,c147_3,e147,hx147_0,hx147_1,hx147_2,hx147_3,hl147_2,hi147_2,hl147_3,hi147_3⟩:=at_T27 HR0.out x5_1 p147 q147;have hw147_3:=hx147_3;have hw147_2:=hx147_2;have hw147_1:=hx147_1;have hw147_0:=hx147_0;cases e147;replace hx147_0:=Up.hc HB hx147_0;replace hx147_1:=Up.hc HB hx147_1;replace hx147_2:=Up.hc HB hx147_2;replace hx147_3:=Up.hc HB hx147_3;have HR147_2:=Aside0.mk hi147_2;have HC147_2:=Aside0.mk hl147_2;clear hi147_2 hl147_2;have HR147_3:=Aside0.mk hi147_3;have HC147_3:=Aside0.mk hl147_3;clear hi147_3 hl147_3;replace p147:=eq_true p147;replace q147:=eq_true q147;have p148 : 0 ≤ (x5_1 : Int):=Up.od;have q148 : x5_1 < (l1.length : Int):=Up.od;obtain ⟨ad148,A148_2,c148_2,A148_3,c148_3,e148,hx148_0,hx148_1,hx148_2,hx148_3,hl148_2,hi148_2,hl148_3,hi148_3⟩:=at_T27 HR1.out x5_1 p148 q148;have hw148_3:=hx148_3;have hw148_2:=hx148_2;have hw148_1:=hx148_1;have hw148_0:=hx148_0;cases e148;replace hx148_0:=Up.hc HB hx148_0;replace hx148_1:=Up.hc HB hx148_1;replace hx148_2:=Up.hc HB hx148_2;replace hx148_3:=Up.hc HB hx148_3;have HR148_2:=Aside0.mk hi148_2;have HC148_2:=Aside0.mk hl148_2;clear hi148_2 hl148_2;have HR148_3:=Aside0.mk hi148_3;have HC148_3:=Aside0.mk hl148_3;clear hi148_3 hl148_3;replace p148:=eq_true p148;replace q148:=eq_true q148;refine start_ (n:=10) (S:=fun w' => w'.cell? (ad147.add ((x5_1).toNat * 4)) = some (.string ((rd_T27 l0 x5_1).f0)) ∧ w'.cell? ⟨(ad147.add ((x5_1).toNat * 4)).block,(ad147.add ((x5_1).toNat * 4)).off + 1,none⟩ = some (.int .i64 ((rd_T27 l0 x5_1).f1)) ∧ w'.cell? ⟨(ad147.add ((x5_1).toNat * 4)).block,(ad147.add ((x5_1).toNat * 4)).off + 2,none⟩ = some (.slice A147_2 ((rd_T27 l0 x5_1).f2).length c147_2) ∧ w'.cell? ⟨(ad147.add ((x5_1).toNat * 4)).block,(ad147.add ((x5_1).toNat * 4)).off + 3,none⟩ = some (.slice A147_3 ((rd_T27 l0 x5_1).f3).length c147_3) ∧ w'.cell? (ad148.add ((x5_1).toNat * 4)) = some (.string ((rd_T27 l1 x5_1).f0)) ∧ w'.cell? ⟨(ad148.add ((x5_1).toNat * 4)).block,(ad148.add ((x5_1).toNat * 4)).off + 1,none⟩ = some (.int .i64 ((rd_T27 l1 x5_1).f1)) ∧ w'.cell? ⟨(ad148.add ((x5_1).toNat * 4)).block,(ad148.add ((x5_1).toNat * 4)).off + 2,none⟩ = some (.slice A148_2 ((rd_T27 l1 x5_1).f2).length c148_2) ∧ w'.cell? ⟨(ad148.add ((x5_1).toNat * 4)).block,(ad148.add ((x5_1).toNat * 4)).off + 3,none⟩ = some (.slice A148_3 ((rd_T27 l1 x5_1).f3).length c148_3)) (ds:=[]) #[false,false,false,false,false,false,false,false,false,false] (by kernel_rfl) rfl rfl ⟨(Up.hd HB hw147_0),(Up.hd HB hw147_1),(Up.hd HB hw147_2),(Up.hd HB hw147_3),(Up.hd HB hw148_0),(Up.hd HB hw148_1),(Up.hd HB hw148_2),(Up.hd HB hw148_3)⟩ (fun hHeld => ?_);refine with_tabW laws_eqValueS.tab6 laws_eqValueS.bits6 (fun HT_ HW_ => ?_);(generalize wr.drew = w11 at HB HR147_2 HR147_3 HR148_2 HR148_3 hx147_0 hx147_1 hx147_2 hx147_3 hx148_0 hx148_1 hx148_2 hx148_3 hHeld ⊢);refine Up.pu 0 (some 17) HT_ ?_;refine Up.pu 1 (some 18) HT_ ?_;refine Up.pu 2 (some 19) HT_ ?_;refine Up.pu 4 (some 21) HT_ ?_;refine Up.pu 5 (some 22) HT_ ?_;refine Up.pu 6 (some 23) HT_ ?_;refine Up.tk 3 (some 20) HT_ HW_ hHeld ?_ (hy:=by rintro w' ⟨s0,s1,s2,s3,s4,s5,s6,s7⟩;go_simp;with_reducible rfl);refine Up.tk 7 (some 24) HT_ HW_ hHeld ?_ (hy:=by rintro w' ⟨s0,s1,s2,s3,s4,s5,s6,s7⟩;go_simp;with_reducible rfl);refine Up.on 8 (some 25) HT_ (fun K hK => ?_);refine Up.go Try.func24 #[.agg #[.string ((rd_T27 l0 x5_1).f0),.int .i64 ((rd_T27 l0 x5_1).f1),.slice A147_2 ((rd_T27 l0 x5_1).f2).length c147_2,.slice A147_3 ((rd_T27 l0 x5_1).f3).length c147_3],.agg #[.string ((rd_T27 l1 x5_1).f0),.int .i64 ((rd_T27 l1 x5_1).f1),.slice A148_2 ((rd_T27 l1 x5_1).f2).length c148_2,.slice A148_3 ((rd_T27 l1 x5_1).f3).length c148_3]] ?_
      with_reducible refine (laws_eqValue.calls_of k1 (ihS_ k1 (by have h_:=HK1.out;omega)) ((rd_T27 l0 x5_1).f0) ((rd_T27 l0 x5_1).f1) _ _ ((rd_T27 l0 x5_1).f2) _ _ ((rd_T27 l0 x5_1).f3) ((rd_T27 l1 x5_1).f0) ((rd_T27 l1 x5_1).f1) _ _ ((rd_T27 l1 x5_1).f2) _ _ ((rd_T27 l1 x5_1).f3) false _ ?side1 ?side2 ?side3 ?side4 ?side5 ?side6 ?side7 ?side8 A7.out).mono ?_
      (case side1 => exact Up.Cx HR147_2 HB);(case side2 => exact HC147_2.out);(case side3 => exact Up.Cx HR147_3 HB);(case side4 => exact HC147_3.out);(case side5 => exact Up.Cx HR148_2 HB);(case side6 => exact HC148_2.out);(case side7 => exact Up.Cx HR148_3 HB);(case side8 => exact HC148_3.out);rintro e w12 ⟨rfl,hb⟩;refine ⟨_,rfl,?_⟩;replace HB:=Up.BB HB hb;(try clear hb);(try clear hb2);(try clear hk);(try clear hi);refine hK.out _ _ ⟨(Up.hd HB hw147_0),(Up.hd HB hw147_1),(Up.hd HB hw147_2),(Up.hd HB hw147_3),(Up.hd HB hw148_0),(Up.hd HB hw148_1),(Up.hd HB hw148_2),(Up.hd HB hw148_3)⟩ (fun hHeld => ?_);clear hK K;refine Up.nm 25 ?_;refine Up.pu 9 (some 26) HT_ ?_;refine done_ (done_of HT_.out (by kernel_rfl)) ?_;(try go_wp2);go_ret;exact Up.e1 (Up.Bup HB)
    ·(rw [if_neg c4] at H);have c4b0:=decide_eq_false c4;clear c4;obtain rfl:=Option.some.inj H;go_wp2;go_ret;exact Up.e1 (Up.Bup HB)
 ·(rw [if_neg c3] at H);have c3b0 : ((l0.length : Int) == (l1.length : Int)) = false:=beq_eq_false_iff_ne.mpr c3;have c3b1 : ((l0.length : Int) != (l1.length : Int)) = true:=bne_iff_ne.mpr c3;(have c3b2 : (l0.length == l1.length) = false:=by first | simpa using c3 | (simp at c3 ⊢;omega));obtain rfl:=Option.some.inj H;go_enter Try.func62,Try.ntmps62;go_wp2;go_ret;exact Up.e1 (Up.Bup HB)
theorem laws_eqValue.calls (k : Nat) (a0_0 : ByteArray) (a0_1 : Int) (A0_2 : Option Addr) (c0_2 : Nat) (l0_2 : List (S27)) (A0_3 : Option Addr) (c0_3 : Nat) (l0_3 : List Int) (a1_0 : ByteArray) (a1_1 : Int) (A1_2 : Option Addr) (c1_2 : Nat) (l1_2 : List (S27)) (A1_3 : Option Addr) (c1_3 : Nat) (l1_3 : List Int) (r : Bool) (w : World) (hr0_2 : Kd.C k27 w A0_2 l0_2.length l0_2) (hc0_2 : l0_2.length ≤ c0_2) (hr0_3 : Kd.C (Kd.int .i64) w A0_3 l0_3.length l0_3) (hc0_3 : l0_3.length ≤ c0_3) (hr1_2 : Kd.C k27 w A1_2 l1_2.length l1_2) (hc1_2 : l1_2.length ≤ c1_2) (hr1_3 : Kd.C (Kd.int .i64) w A1_3 l1_3.length l1_3) (hc1_3 : l1_3.length ≤ c1_3) (h : laws_eqValue.f k a0_0 a0_1 l0_2 l0_3 a1_0 a1_1 l1_2 l1_3 = some r) :
  Calls Try.prog 24 #[.agg #[.string a0_0,.int .i64 a0_1,.slice A0_2 l0_2.length c0_2,.slice A0_3 l0_3.length c0_3],.agg #[.string a1_0,.int .i64 a1_1,.slice A1_2 l1_2.length c1_2,.slice A1_3 l1_3.length c1_3]] w fun e w' => e = .returned (.bool r) ∧ Below w.heap.size w w':=laws_eqValue.calls_of k (laws_eqValueS.calls k) a0_0 a0_1 A0_2 c0_2 l0_2 A0_3 c0_3 l0_3 a1_0 a1_1 A1_2 c1_2 l1_2 A1_3 c1_3 l1_3 r w hr0_2 hc0_2 hr0_3 hc0_3 hr1_2 hc1_2 hr1_3 hc1_3 h

/-! ### spec_l6In: function 97 -/
def spec_l6In.f (a0 : Int) (a1 : Int) (a2 : Int) : Option (Bool):=if a0 ≥ a1 then (some (decide (a0 ≤ a2))) else (some false)
set_option maxHeartbeats 8000000 in
set_option maxRecDepth 100000 in
theorem spec_l6In.calls (a0 : Int) (a1 : Int) (a2 : Int) (r : Bool) (w : World) (h : spec_l6In.f a0 a1 a2 = some r) :
  Calls Try.prog 97 #[.int .i64 a0,.int .i64 a1,.int .i64 a2] w fun e w' => e = .returned (.bool r) ∧ Drawn0 w w':=by
 have H : (if a0 ≥ a1 then (some (decide (a0 ≤ a2))) else (some false)) = some r:=h;clear h;by_cases c4 : a0 ≥ a1
 ·(rw [if_pos c4] at H);have c4b0 : decide (a1 ≤ a0) = true:=decide_eq_true c4;clear c4;obtain rfl:=Option.some.inj H;go_enter Try.func97,Try.ntmps97;go_wp2;go_ret;exact Up.e2
 ·(rw [if_neg c4] at H);have c4b0 : decide (a1 ≤ a0) = false:=decide_eq_false c4;clear c4;obtain rfl:=Option.some.inj H;go_enter Try.func97,Try.ntmps97;go_wp2;go_ret;exact Up.e2

/-! ### spec_l1Can: function 100 -/
def spec_l1Can.f (a0 : Int) (a1 : Int) : Option (Bool):=if a1 = 0 then (none) else (some ((Int.tmod (wrap64 (Int.tdiv a0 a1)) 2) == 1))
set_option maxHeartbeats 8000000 in
set_option maxRecDepth 100000 in
theorem spec_l1Can.calls (a0 : Int) (a1 : Int) (r : Bool) (w : World) (h : spec_l1Can.f a0 a1 = some r) :
  Calls Try.prog 100 #[.int .i64 a0,.int .i64 a1] w fun e w' => e = .returned (.bool r) ∧ Drawn0 w w':=by
 have H : (if a1 = 0 then (none) else (some ((Int.tmod (wrap64 (Int.tdiv a0 a1)) 2) == 1))) = some r:=h;clear h;by_cases c3 : a1 = 0
 ·(rw [if_pos c3] at H);exact absurd H (by simp)
 ·(rw [if_neg c3] at H);have c3b0 : (a1 == 0) = false:=beq_eq_false_iff_ne.mpr c3;have c3b1 : (a1 != 0) = true:=bne_iff_ne.mpr c3;obtain rfl:=Option.some.inj H;go_enter Try.func100,Try.ntmps100;go_wp2;go_ret;exact Up.e2

/-! ### spec_l1Kind: function 50 -/
def spec_l1Kind.f (a0 : ByteArray) : Option (Int × Int × Bool):=if (a0.size : Int) = 3 then (if 0 < (a0.size : Int) then (if (bt a0 0) = 83 then (if 1 < (a0.size : Int) then (if (bt a0 1) < 48 then (some (0,0,false)) else (if (bt a0 1) > 57 then (some (0,0,false)) else (if 2 < (a0.size : Int) then (if (bt a0 2) < 48 then (some (0,0,false)) else (if (bt a0 2) > 57 then (some (0,0,false)) else (some (((bt a0 1) - 48) % 256,((bt a0 2) - 48) % 256,true)))) else (none)))) else (none)) else (some (0,0,false))) else (none)) else (some (0,0,false))
set_option maxHeartbeats 8000000 in
set_option maxRecDepth 100000 in
theorem spec_l1Kind.calls (a0 : ByteArray) (r1 : Int) (r2 : Int) (r3 : Bool) (w : World) (h : spec_l1Kind.f a0 = some (r1,r2,r3)) :
  Calls Try.prog 50 #[.string a0] w fun e w' => e = .returned (.tuple #[.int .i64 r1,.int .i64 r2,.bool r3]) ∧ Drawn0 w w':=by
 have H : (if (a0.size : Int) = 3 then (if 0 < (a0.size : Int) then (if (bt a0 0) = 83 then (if 1 < (a0.size : Int) then (if (bt a0 1) < 48 then (some (0,0,false)) else (if (bt a0 1) > 57 then (some (0,0,false)) else (if 2 < (a0.size : Int) then (if (bt a0 2) < 48 then (some (0,0,false)) else (if (bt a0 2) > 57 then (some (0,0,false)) else (some (((bt a0 1) - 48) % 256,((bt a0 2) - 48) % 256,true)))) else (none)))) else (none)) else (some (0,0,false))) else (none)) else (some (0,0,false))) = some (r1,r2,r3):=h;clear h;by_cases c2 : (a0.size : Int) = 3
 ·(rw [if_pos c2] at H);have c2b0 : ((a0.size : Int) == 3) = true:=beq_iff_eq.mpr c2;have c2b1 : ((a0.size : Int) != 3) = false:=bne_eq_false_iff_eq.mpr c2;clear c2;replace H:=Up.ip H;obtain ⟨c3,H⟩:=H;have c3b0:=decide_eq_true c3;have c3b1 : decide (0 < a0.size) = true:=decide_eq_true (by omega);clear c3;by_cases c5 : (bt a0 0) = 83
  ·(rw [if_pos c5] at H);have c5b0 : ((bt a0 0) == 83) = true:=beq_iff_eq.mpr c5;have c5b1 : ((bt a0 0) != 83) = false:=bne_eq_false_iff_eq.mpr c5;clear c5;replace H:=Up.ip H;obtain ⟨c6,H⟩:=H;have c6b0:=decide_eq_true c6;have c6b1 : decide (1 < a0.size) = true:=decide_eq_true (by omega);clear c6;by_cases c8 : (bt a0 1) < 48
   ·(rw [if_pos c8] at H);have c8b0:=decide_eq_true c8;clear c8;(simp only [Option.some.injEq,Prod.mk.injEq] at H);obtain ⟨rfl,rfl,rfl⟩:=H;(have p4 : 0 ≤ (0 : Int):=(by omega));(have q4 : 0 < a0.size:=(by have : (0 : Int) < (a0.size : Int):=Up.od;omega));have hx4 : ∀ h : 0 < a0.size,((a0[0]'h).toNat : Int) = bt a0 0:=bt_at a0 0;clear p4;have qi4 : (0 < (a0.size : Int)) = True:=eq_true (Up.od);replace q4:=eq_true q4;(have p7 : 0 ≤ (1 : Int):=(by omega));(have q7 : 1 < a0.size:=(by have : (1 : Int) < (a0.size : Int):=Up.od;omega));have hx7 : ∀ h : 1 < a0.size,((a0[1]'h).toNat : Int) = bt a0 1:=bt_at a0 1;clear p7;have qi7 : (1 < (a0.size : Int)) = True:=eq_true (Up.od);replace q7:=eq_true q7;go_enter Try.func50,Try.ntmps50;go_wp2;(repeat (go_quiet (fail);try go_wp2));go_ret3;exact Up.e2
   ·(rw [if_neg c8] at H);have c8b0:=decide_eq_false c8;clear c8;by_cases c10 : (bt a0 1) > 57
    ·(rw [if_pos c10] at H);have c10b0 : decide (57 < (bt a0 1)) = true:=decide_eq_true c10;clear c10;(simp only [Option.some.injEq,Prod.mk.injEq] at H);obtain ⟨rfl,rfl,rfl⟩:=H;(have p4 : 0 ≤ (0 : Int):=(by omega));(have q4 : 0 < a0.size:=(by have : (0 : Int) < (a0.size : Int):=Up.od;omega));have hx4 : ∀ h : 0 < a0.size,((a0[0]'h).toNat : Int) = bt a0 0:=bt_at a0 0;clear p4;have qi4 : (0 < (a0.size : Int)) = True:=eq_true (Up.od);replace q4:=eq_true q4;(have p7 : 0 ≤ (1 : Int):=(by omega));(have q7 : 1 < a0.size:=(by have : (1 : Int) < (a0.size : Int):=Up.od;omega));have hx7 : ∀ h : 1 < a0.size,((a0[1]'h).toNat : Int) = bt a0 1:=bt_at a0 1;clear p7;have qi7 : (1 < (a0.size : Int)) = True:=eq_true (Up.od);replace q7:=eq_true q7;(have p9 : 0 ≤ (1 : Int):=(by omega));(have q9 : 1 < a0.size:=(by have : (1 : Int) < (a0.size : Int):=Up.od;omega));have hx9 : ∀ h : 1 < a0.size,((a0[1]'h).toNat : Int) = bt a0 1:=bt_at a0 1;clear p9;have qi9 : (1 < (a0.size : Int)) = True:=eq_true (Up.od);replace q9:=eq_true q9;go_enter Try.func50,Try.ntmps50;go_wp2;(repeat (go_quiet (fail);try go_wp2));go_ret3;exact Up.e2
    ·(rw [if_neg c10] at H);have c10b0 : decide (57 < (bt a0 1)) = false:=decide_eq_false c10;clear c10;replace H:=Up.ip H;obtain ⟨c11,H⟩:=H;have c11b0:=decide_eq_true c11;have c11b1 : decide (2 < a0.size) = true:=decide_eq_true (by omega);clear c11;by_cases c13 : (bt a0 2) < 48
     ·(rw [if_pos c13] at H);have c13b0:=decide_eq_true c13;clear c13;(simp only [Option.some.injEq,Prod.mk.injEq] at H);obtain ⟨rfl,rfl,rfl⟩:=H;(have p4 : 0 ≤ (0 : Int):=(by omega));(have q4 : 0 < a0.size:=(by have : (0 : Int) < (a0.size : Int):=Up.od;omega));have hx4 : ∀ h : 0 < a0.size,((a0[0]'h).toNat : Int) = bt a0 0:=bt_at a0 0;clear p4;have qi4 : (0 < (a0.size : Int)) = True:=eq_true (Up.od);replace q4:=eq_true q4;(have p7 : 0 ≤ (1 : Int):=(by omega));(have q7 : 1 < a0.size:=(by have : (1 : Int) < (a0.size : Int):=Up.od;omega));have hx7 : ∀ h : 1 < a0.size,((a0[1]'h).toNat : Int) = bt a0 1:=bt_at a0 1;clear p7;have qi7 : (1 < (a0.size : Int)) = True:=eq_true (Up.od);replace q7:=eq_true q7;(have p9 : 0 ≤ (1 : Int):=(by omega));(have q9 : 1 < a0.size:=(by have : (1 : Int) < (a0.size : Int):=Up.od;omega));have hx9 : ∀ h : 1 < a0.size,((a0[1]'h).toNat : Int) = bt a0 1:=bt_at a0 1;clear p9;have qi9 : (1 < (a0.size : Int)) = True:=eq_true (Up.od);replace q9:=eq_true q9;(have p12 : 0 ≤ (2 : Int):=(by omega));(have q12 : 2 < a0.size:=(by have : (2 : Int) < (a0.size : Int):=Up.od;omega));have hx12 : ∀ h : 2 < a0.size,((a0[2]'h).toNat : Int) = bt a0 2:=bt_at a0 2;clear p12;have qi12 : (2 < (a0.size : Int)) = True:=eq_true (Up.od);replace q12:=eq_true q12;go_enter Try.func50,Try.ntmps50;go_wp2;(repeat (go_quiet (fail);try go_wp2));go_ret3;exact Up.e2
     ·(rw [if_neg c13] at H);have c13b0:=decide_eq_false c13;clear c13;by_cases c15 : (bt a0 2) > 57
      ·(rw [if_pos c15] at H);have c15b0 : decide (57 < (bt a0 2)) = true:=decide_eq_true c15;clear c15;(simp only [Option.some.injEq,Prod.mk.injEq] at H);obtain ⟨rfl,rfl,rfl⟩:=H;(have p4 : 0 ≤ (0 : Int):=(by omega));(have q4 : 0 < a0.size:=(by have : (0 : Int) < (a0.size : Int):=Up.od;omega));have hx4 : ∀ h : 0 < a0.size,((a0[0]'h).toNat : Int) = bt a0 0:=bt_at a0 0;clear p4;have qi4 : (0 < (a0.size : Int)) = True:=eq_true (Up.od);replace q4:=eq_true q4;(have p7 : 0 ≤ (1 : Int):=(by omega));(have q7 : 1 < a0.size:=(by have : (1 : Int) < (a0.size : Int):=Up.od;omega));have hx7 : ∀ h : 1 < a0.size,((a0[1]'h).toNat : Int) = bt a0 1:=bt_at a0 1;clear p7;have qi7 : (1 < (a0.size : Int)) = True:=eq_true (Up.od);replace q7:=eq_true q7;(have p9 : 0 ≤ (1 : Int):=(by omega));(have q9 : 1 < a0.size:=(by have : (1 : Int) < (a0.size : Int):=Up.od;omega));have hx9 : ∀ h : 1 < a0.size,((a0[1]'h).toNat : Int) = bt a0 1:=bt_at a0 1;clear p9;have qi9 : (1 < (a0.size : Int)) = True:=eq_true (Up.od);replace q9:=eq_true q9;(have p12 : 0 ≤ (2 : Int):=(by omega));(have q12 : 2 < a0.size:=(by have : (2 : Int) < (a0.size : Int):=Up.od;omega));have hx12 : ∀ h : 2 < a0.size,((a0[2]'h).toNat : Int) = bt a0 2:=bt_at a0 2;clear p12;have qi12 : (2 < (a0.size : Int)) = True:=eq_true (Up.od);replace q12:=eq_true q12;(have p14 : 0 ≤ (2 : Int):=(by omega));(have q14 : 2 < a0.size:=(by have : (2 : Int) < (a0.size : Int):=Up.od;omega));have hx14 : ∀ h : 2 < a0.size,((a0[2]'h).toNat : Int) = bt a0 2:=bt_at a0 2;clear p14;have qi14 : (2 < (a0.size : Int)) = True:=eq_true (Up.od);replace q14:=eq_true q14;go_enter Try.func50,Try.ntmps50;go_wp2;(repeat (go_quiet (fail);try go_wp2));go_ret3;exact Up.e2
      ·(rw [if_neg c15] at H);have c15b0 : decide (57 < (bt a0 2)) = false:=decide_eq_false c15;clear c15;(simp only [Option.some.injEq,Prod.mk.injEq] at H);obtain ⟨rfl,rfl,rfl⟩:=H;(have p4 : 0 ≤ (0 : Int):=(by omega));(have q4 : 0 < a0.size:=(by have : (0 : Int) < (a0.size : Int):=Up.od;omega));have hx4 : ∀ h : 0 < a0.size,((a0[0]'h).toNat : Int) = bt a0 0:=bt_at a0 0;clear p4;have qi4 : (0 < (a0.size : Int)) = True:=eq_true (Up.od);replace q4:=eq_true q4;(have p7 : 0 ≤ (1 : Int):=(by omega));(have q7 : 1 < a0.size:=(by have : (1 : Int) < (a0.size : Int):=Up.od;omega));have hx7 : ∀ h : 1 < a0.size,((a0[1]'h).toNat : Int) = bt a0 1:=bt_at a0 1;clear p7;have qi7 : (1 < (a0.size : Int)) = True:=eq_true (Up.od);replace q7:=eq_true q7;(have p9 : 0 ≤ (1 : Int):=(by omega));(have q9 : 1 < a0.size:=(by have : (1 : Int) < (a0.size : Int):=Up.od;omega));have hx9 : ∀ h : 1 < a0.size,((a0[1]'h).toNat : Int) = bt a0 1:=bt_at a0 1;clear p9;have qi9 : (1 < (a0.size : Int)) = True:=eq_true (Up.od);replace q9:=eq_true q9;(have p12 : 0 ≤ (2 : Int):=(by omega));(have q12 : 2 < a0.size:=(by have : (2 : Int) < (a0.size : Int):=Up.od;omega));have hx12 : ∀ h : 2 < a0.size,((a0[2]'h).toNat : Int) = bt a0 2:=bt_at a0 2;clear p12;have qi12 : (2 < (a0.size : Int)) = True:=eq_true (Up.od);replace q12:=eq_true q12;(have p14 : 0 ≤ (2 : Int):=(by omega));(have q14 : 2 < a0.size:=(by have : (2 : Int) < (a0.size : Int):=Up.od;omega));have hx14 : ∀ h : 2 < a0.size,((a0[2]'h).toNat : Int) = bt a0 2:=bt_at a0 2;clear p14;have qi14 : (2 < (a0.size : Int)) = True:=eq_true (Up.od);replace q14:=eq_true q14;(have p16 : 0 ≤ (1 : Int):=(by omega));(have q16 : 1 < a0.size:=(by have : (1 : Int) < (a0.size : Int):=Up.od;omega));have hx16 : ∀ h : 1 < a0.size,((a0[1]'h).toNat : Int) = bt a0 1:=bt_at a0 1;clear p16;have qi16 : (1 < (a0.size : Int)) = True:=eq_true (Up.od);replace q16:=eq_true q16;(have p17 : 0 ≤ (2 : Int):=(by omega));(have q17 : 2 < a0.size:=(by have : (2 : Int) < (a0.size : Int):=Up.od;omega));have hx17 : ∀ h : 2 < a0.size,((a0[2]'h).toNat : Int) = bt a0 2:=bt_at a0 2;clear p17;have qi17 : (2 < (a0.size : Int)) = True:=eq_true (Up.od);replace q17:=eq_true q17;go_enter Try.func50,Try.ntmps50;go_wp2;(repeat (go_quiet (fail);try go_wp2));go_ret3;exact Up.e2
  ·(rw [if_neg c5] at H);have c5b0 : ((bt a0 0) == 83) = false:=beq_eq_false_iff_ne.mpr c5;have c5b1 : ((bt a0 0) != 83) = true:=bne_iff_ne.mpr c5;(simp only [Option.some.injEq,Prod.mk.injEq] at H);obtain ⟨rfl,rfl,rfl⟩:=H;(have p4 : 0 ≤ (0 : Int):=(by omega));(have q4 : 0 < a0.size:=(by have : (0 : Int) < (a0.size : Int):=Up.od;omega));have hx4 : ∀ h : 0 < a0.size,((a0[0]'h).toNat : Int) = bt a0 0:=bt_at a0 0;clear p4;have qi4 : (0 < (a0.size : Int)) = True:=eq_true (Up.od);replace q4:=eq_true q4;go_enter Try.func50,Try.ntmps50;go_wp2;(repeat (go_quiet (fail);try go_wp2));go_ret3;exact Up.e2
 ·(rw [if_neg c2] at H);have c2b0 : ((a0.size : Int) == 3) = false:=beq_eq_false_iff_ne.mpr c2;have c2b1 : ((a0.size : Int) != 3) = true:=bne_iff_ne.mpr c2;(simp only [Option.some.injEq,Prod.mk.injEq] at H);obtain ⟨rfl,rfl,rfl⟩:=H;go_enter Try.func50,Try.ntmps50;go_wp2;(repeat (go_quiet (fail);try go_wp2));go_ret3;exact Up.e2

/-! ### spec_l1Ref: function 119 -/
def spec_l1Ref.f (a0 : ByteArray) : Option (Bool):=if (a0.size : Int) > 0 then (if 0 < (a0.size : Int) then (if (bt a0 0) = 38 then (some true) else (some ((bt a0 0) == 33))) else (none)) else (some false)
set_option maxHeartbeats 8000000 in
set_option maxRecDepth 100000 in
theorem spec_l1Ref.calls (a0 : ByteArray) (r : Bool) (w : World) (h : spec_l1Ref.f a0 = some r) :
  Calls Try.prog 119 #[.string a0] w fun e w' => e = .returned (.bool r) ∧ Drawn0 w w':=by
 have H : (if (a0.size : Int) > 0 then (if 0 < (a0.size : Int) then (if (bt a0 0) = 38 then (some true) else (some ((bt a0 0) == 33))) else (none)) else (some false)) = some r:=h;clear h;by_cases c2 : (a0.size : Int) > 0
 ·(rw [if_pos c2] at H);have c2b0 : decide (0 < (a0.size : Int)) = true:=decide_eq_true c2;have c2b1 : decide (0 < a0.size) = true:=decide_eq_true (by omega);clear c2;replace H:=Up.ip H;obtain ⟨c3,H⟩:=H;have c3b0:=decide_eq_true c3;have c3b1 : decide (0 < a0.size) = true:=decide_eq_true (by omega);clear c3;by_cases c5 : (bt a0 0) = 38
  ·(rw [if_pos c5] at H);have c5b0 : ((bt a0 0) == 38) = true:=beq_iff_eq.mpr c5;have c5b1 : ((bt a0 0) != 38) = false:=bne_eq_false_iff_eq.mpr c5;clear c5;obtain rfl:=Option.some.inj H;(have p4 : 0 ≤ (0 : Int):=(by omega));(have q4 : 0 < a0.size:=(by have : (0 : Int) < (a0.size : Int):=Up.od;omega));have hx4 : ∀ h : 0 < a0.size,((a0[0]'h).toNat : Int) = bt a0 0:=bt_at a0 0;clear p4;have qi4 : (0 < (a0.size : Int)) = True:=eq_true (Up.od);replace q4:=eq_true q4;go_enter Try.func119,Try.ntmps119;go_wp2;go_ret;exact Up.e2
  ·(rw [if_neg c5] at H);have c5b0 : ((bt a0 0) == 38) = false:=beq_eq_false_iff_ne.mpr c5;have c5b1 : ((bt a0 0) != 38) = true:=bne_iff_ne.mpr c5;obtain rfl:=Option.some.inj H;(have p4 : 0 ≤ (0 : Int):=(by omega));(have q4 : 0 < a0.size:=(by have : (0 : Int) < (a0.size : Int):=Up.od;omega));have hx4 : ∀ h : 0 < a0.size,((a0[0]'h).toNat : Int) = bt a0 0:=bt_at a0 0;clear p4;have qi4 : (0 < (a0.size : Int)) = True:=eq_true (Up.od);replace q4:=eq_true q4;(have p6 : 0 ≤ (0 : Int):=(by omega));(have q6 : 0 < a0.size:=(by have : (0 : Int) < (a0.size : Int):=Up.od;omega));have hx6 : ∀ h : 0 < a0.size,((a0[0]'h).toNat : Int) = bt a0 0:=bt_at a0 0;clear p6;have qi6 : (0 < (a0.size : Int)) = True:=eq_true (Up.od);replace q6:=eq_true q6;go_enter Try.func119,Try.ntmps119;go_wp2;go_ret;exact Up.e2
 ·(rw [if_neg c2] at H);have c2b0 : decide (0 < (a0.size : Int)) = false:=decide_eq_false c2;have c2b1 : decide (0 < a0.size) = false:=decide_eq_false (by omega);clear c2;obtain rfl:=Option.some.inj H;go_enter Try.func119,Try.ntmps119;go_wp2;go_ret;exact Up.e2

/-! ### spec_l1Able: function 101 -/
def spec_l1Able.j0 : Nat → List (List (S113)) → ByteArray → Bool → Option (Int)
 | 0,_,_,_ => none
 | k + 1,x0,x1,x14 => if x14 = true then (some 3) else ((spec_l1Ref.f x1).bind fun t157 => (if t157 = true then (some 2) else ((spec_l1Kind.f x1).bind fun bt158 => (if bt158.2.2 = true then (if 0 ≤ bt158.1 then (if bt158.1 < (x0.length : Int) then (if 0 ≤ bt158.2.1 then (if bt158.2.1 < ((rd_L6 x0 bt158.1).length : Int) then (some ((rd_T113 (rd_L6 x0 bt158.1) bt158.2.1).f0)) else (none)) else (none)) else (none)) else (none)) else (some 7)))))
def spec_l1Able.f (k : Nat) (l0 : List (List (S113))) (a1 : ByteArray) : Option (Int):=(spec_l1Ref.f a1).bind fun t156 => (if t156 = true then (if 0 < (a1.size : Int) then (spec_l1Able.j0 k l0 a1 ((bt a1 0) == 38)) else (none)) else (spec_l1Able.j0 k l0 a1 false))
theorem spec_l1Able.mono_l : ∀ k,(∀ y0 y1 y2,LeO (spec_l1Able.j0 k y0 y1 y2) (spec_l1Able.j0 (k + 1) y0 y1 y2))
 | 0 => fun _ _ _ r h => by simp [spec_l1Able.j0] at h
 | k + 1 => by
  have ih0:=spec_l1Able.mono_l k
  ·intro y0 y1 y2;unfold spec_l1Able.j0;repeat' first
   | (with_reducible exact ih0 _ _ _)
   | (with_reducible exact LeO.refl _)
   | (with_reducible exact LeO.none _)
   | (with_reducible refine LeO.ite ?_ ?_)
   | (with_reducible refine LeO.bind ?_ (fun _ => ?_))
   | exact ih0 _ _ _
   | exact LeO.none _
   | refine LeO.ite ?_ ?_
   | refine LeO.bind ?_ (fun _ => ?_)
theorem spec_l1Able.mono : ∀ a0 a1 k,LeO (spec_l1Able.f k a0 a1) (spec_l1Able.f (k + 1) a0 a1):=by
 intro a0 a1 k;have ih0:=spec_l1Able.mono_l k;unfold spec_l1Able.f
 repeat' first
   | (with_reducible exact ih0 _ _ _)
   | (with_reducible exact LeO.refl _)
   | (with_reducible exact LeO.none _)
   | (with_reducible refine LeO.ite ?_ ?_)
   | (with_reducible refine LeO.bind ?_ (fun _ => ?_))
   | exact ih0 _ _ _
   | exact LeO.none _
   | refine LeO.ite ?_ ?_
   | refine LeO.bind ?_ (fun _ => ?_)
set_option maxHeartbeats 8000000 in
set_option maxRecDepth 100000 in
theorem spec_l1Able.calls (k : Nat) (A0 : Option Addr) (c0 : Nat) (l0 : List (List (S113))) (a1 : ByteArray) (r : Int) (w : World) (hr0 : Kd.C (Kd.slice 113 k113) w A0 l0.length l0) (hc0 : l0.length ≤ c0) (h : spec_l1Able.f k l0 a1 = some r) :
  Calls Try.prog 101 #[.slice A0 l0.length c0,.string a1] w fun e w' => e = .returned (.int .i64 r) ∧ Drawn0 w w':=by
 have HR0:=Aside0.mk hr0;have HC0:=Aside0.mk hc0;clear hr0 hc0;have H : ((spec_l1Ref.f a1).bind fun t156 => (if t156 = true then (if 0 < (a1.size : Int) then (spec_l1Able.j0 k l0 a1 ((bt a1 0) == 38)) else (none)) else (spec_l1Able.j0 k l0 a1 false))) = some r:=h;clear h;have HC3:=Aside0.mk H;clear H;go_enter Try.func101,Try.ntmps101;go_upto_region 1 with (fail);go_cut [14] (fun v14 wc => ∃ (kq : Nat) (x14_2 : Bool),v14 = .bool x14_2 ∧ Aside0 (spec_l1Able.j0 kq l0 a1 x14_2 = some r) ∧ Aside0 (kq ≤ k) ∧ Drawn0 w wc)
 case first =>
  have H:=HC3.out;clear HC3;replace H:=Up.bd H;obtain ⟨t156,A4,H⟩:=H;(try dsimp only at H);by_cases c5 : t156 = true
  ·subst c5;(rw [if_pos rfl] at H);replace H:=Up.ip H;obtain ⟨c6,H⟩:=H;have c6b0:=decide_eq_true c6;have c6b1 : decide (0 < a1.size) = true:=decide_eq_true (by omega);clear c6;(first | rw [c6b0] | (simp only [i64_w,i32_w];rw [c6b0]) | skip);have H':=Aside0.mk H;clear H;go_wp2_with (first | ((with_reducible refine gate_callee (f:=119) rfl ?_);refine Up.gl (some 9) Try.func119 #[.string a1] ?_;(with_reducible refine (spec_l1Ref.calls a1 true _ A4.out).mono ?_);rintro e w' ⟨rfl,⟨nd,rfl⟩⟩;refine ⟨_,rfl,?_⟩;have p7 : 0 ≤ (0 : Int):=(by omega);have q7 : 0 < a1.size:=(by have : (0 : Int) < (a1.size : Int):=Up.od;omega);have hx7 : ∀ h : 0 < a1.size,((a1[0]'h).toNat : Int) = bt a1 0:=bt_at a1 0;clear p7;have qi7 : (0 < (a1.size : Int)) = True:=eq_true (Up.od);replace q7:=eq_true q7));go_meet
   case rel => exact ⟨_,(((bt a1 0) == 38)),(by first | rfl | (simp;done) | (simp [*];done)),H',⟨by first | omega | exact Nat.le_refl _⟩,by repeat (first | exact Drawn0.refl _ | apply Drawn0.step)⟩
  ·replace c5:=Bool.eq_false_iff.mpr c5;subst c5;(rw [if_neg (show ¬ (false = true) by decide)] at H);have H':=Aside0.mk H;clear H;go_wp2_with (first | ((with_reducible refine gate_callee (f:=119) rfl ?_);refine Up.gl (some 9) Try.func119 #[.string a1] ?_;(with_reducible refine (spec_l1Ref.calls a1 false _ A4.out).mono ?_);rintro e w' ⟨rfl,⟨nd,rfl⟩⟩;refine ⟨_,rfl,?_⟩));go_meet
   case rel => exact ⟨_,(false),(by first | rfl | (simp;done) | (simp [*];done)),H',⟨by first | omega | exact Nat.le_refl _⟩,by repeat (first | exact Drawn0.refl _ | apply Drawn0.step)⟩
 case rest =>
  clear HC3;(try clear c1);(try clear p2);(try clear c5);(try clear c6);(try clear c6b0);(try clear c6b1);(try clear p7);(try clear q7);(try clear hx7);(try clear qi7);(try clear p7);(try clear q7);obtain ⟨kq,x14_2,rfl,HA,HJ2,⟨mc2,rfl⟩⟩:=hcut;cases kq with
  | zero => exact absurd HA.out (by simp [spec_l1Able.j0])
  | succ kj2 =>
   have H:=HA.out;clear HA;(simp only [spec_l1Able.j0] at H);by_cases c8 : x14_2 = true
   ·subst c8;(rw [if_pos rfl] at H);obtain rfl:=Option.some.inj H;go_wp2;go_ret;exact Up.e2
   ·replace c8:=Bool.eq_false_iff.mpr c8;subst c8;(rw [if_neg (show ¬ (false = true) by decide)] at H);replace H:=Up.bd H;obtain ⟨t157,A9,H⟩:=H;(try dsimp only at H);by_cases c10 : t157 = true
    ·subst c10;(rw [if_pos rfl] at H);obtain rfl:=Option.some.inj H;go_wp2_with (first | ((with_reducible refine gate_callee (f:=119) rfl ?_);refine Up.gl (some 16) Try.func119 #[.string a1] ?_;(with_reducible refine (spec_l1Ref.calls a1 true _ A9.out).mono ?_);rintro e w' ⟨rfl,⟨nd,rfl⟩⟩;refine ⟨_,rfl,?_⟩));go_ret;exact Up.e2
    ·replace c10:=Bool.eq_false_iff.mpr c10;subst c10;(rw [if_neg (show ¬ (false = true) by decide)] at H);replace H:=Up.bd H;obtain ⟨⟨t158,t159,t160⟩,A11,H⟩:=H;(try dsimp only at H);by_cases c12 : t160 = true
     ·subst c12;(rw [if_pos rfl] at H);replace H:=Up.ip H;obtain ⟨c13,H⟩:=H;have c13b0:=decide_eq_true c13;clear c13;replace H:=Up.ip H;obtain ⟨c14,H⟩:=H;have c14b0:=decide_eq_true c14;clear c14;replace H:=Up.ip H;obtain ⟨c15,H⟩:=H;have c15b0:=decide_eq_true c15;clear c15;replace H:=Up.ip H;obtain ⟨c16,H⟩:=H;have c16b0:=decide_eq_true c16;clear c16;obtain rfl:=Option.some.inj H;go_wp2_with (first | ((with_reducible refine gate_callee (f:=119) rfl ?_);refine Up.gl (some 16) Try.func119 #[.string a1] ?_;(with_reducible refine (spec_l1Ref.calls a1 false _ A9.out).mono ?_);rintro e w' ⟨rfl,⟨nd,rfl⟩⟩;refine ⟨_,rfl,?_⟩) | ((with_reducible refine gate_callee (f:=50) rfl ?_);refine Up.gl (some 19) Try.func50 #[.string a1] ?_;(with_reducible refine (spec_l1Kind.calls a1 t158 t159 true _ A11.out).mono ?_);rintro e w' ⟨rfl,⟨nd,rfl⟩⟩;refine ⟨_,rfl,?_⟩;have p161 : 0 ≤ (t158 : Int):=Up.od;have q161 : t158 < (l0.length : Int):=Up.od;obtain ⟨ad161,A161_0,c161_0,e161,hx161_0,hl161_0,hi161_0⟩:=at_L6 HR0.out t158 p161 q161;cases e161;have HR161_0:=Aside0.mk hi161_0;have HC161_0:=Aside0.mk hl161_0;clear hi161_0 hl161_0;replace p161:=eq_true p161;replace q161:=eq_true q161;have p162 : 0 ≤ (t159 : Int):=Up.od;have q162 : t159 < ((rd_L6 l0 t158).length : Int):=Up.od;obtain ⟨ad162,A162_1,c162_1,e162,hx162_0,hx162_1,hl162_1,hi162_1⟩:=at_T113 HR161_0.out t159 p162 q162;cases e162;have HR162_1:=Aside0.mk hi162_1;have HC162_1:=Aside0.mk hl162_1;clear hi162_1 hl162_1;replace p162:=eq_true p162;replace q162:=eq_true q162));go_ret;exact Up.e2
     ·replace c12:=Bool.eq_false_iff.mpr c12;subst c12;(rw [if_neg (show ¬ (false = true) by decide)] at H);obtain rfl:=Option.some.inj H;go_wp2_with (first | ((with_reducible refine gate_callee (f:=119) rfl ?_);refine Up.gl (some 16) Try.func119 #[.string a1] ?_;(with_reducible refine (spec_l1Ref.calls a1 false _ A9.out).mono ?_);rintro e w' ⟨rfl,⟨nd,rfl⟩⟩;refine ⟨_,rfl,?_⟩) | ((with_reducible refine gate_callee (f:=50) rfl ?_);refine Up.gl (some 19) Try.func50 #[.string a1] ?_;(with_reducible refine (spec_l1Kind.calls a1 t158 t159 false _ A11.out).mono ?_);rintro e w' ⟨rfl,⟨nd,rfl⟩⟩;refine ⟨_,rfl,?_⟩));go_ret;exact Up.e2

/-! ### spec_l1Has: function 87 -/
def spec_l1Has.f (l0 : List (List (S113))) (a1 : Int) (a2 : Int) : Option (Bool):=if a1 < (l0.length : Int) then (if 0 ≤ a1 then (some (decide (a2 < ((rd_L6 l0 a1).length : Int)))) else (none)) else (some false)
set_option maxHeartbeats 8000000 in
set_option maxRecDepth 100000 in
theorem spec_l1Has.calls (A0 : Option Addr) (c0 : Nat) (l0 : List (List (S113))) (a1 : Int) (a2 : Int) (r : Bool) (w : World) (hr0 : Kd.C (Kd.slice 113 k113) w A0 l0.length l0) (hc0 : l0.length ≤ c0) (h : spec_l1Has.f l0 a1 a2 = some r) :
  Calls Try.prog 87 #[.slice A0 l0.length c0,.int .i64 a1,.int .i64 a2] w fun e w' => e = .returned (.bool r) ∧ Drawn0 w w':=by
 have HR0:=Aside0.mk hr0;have HC0:=Aside0.mk hc0;clear hr0 hc0;have H : (if a1 < (l0.length : Int) then (if 0 ≤ a1 then (some (decide (a2 < ((rd_L6 l0 a1).length : Int)))) else (none)) else (some false)) = some r:=h;clear h;by_cases c4 : a1 < (l0.length : Int)
 ·(rw [if_pos c4] at H);have c4b0:=decide_eq_true c4;clear c4;replace H:=Up.ip H;obtain ⟨c5,H⟩:=H;have c5b0:=decide_eq_true c5;clear c5;obtain rfl:=Option.some.inj H;have p163 : 0 ≤ (a1 : Int):=Up.od;have q163 : a1 < (l0.length : Int):=Up.od;obtain ⟨ad163,A163_0,c163_0,e163,hx163_0,hl163_0,hi163_0⟩:=at_L6 HR0.out a1 p163 q163;cases e163;have HR163_0:=Aside0.mk hi163_0;have HC163_0:=Aside0.mk hl163_0;clear hi163_0 hl163_0;replace p163:=eq_true p163;replace q163:=eq_true q163;go_enter Try.func87,Try.ntmps87;go_wp2;go_ret;exact Up.e2
 ·(rw [if_neg c4] at H);have c4b0:=decide_eq_false c4;clear c4;obtain rfl:=Option.some.inj H;go_enter Try.func87,Try.ntmps87;go_wp2;go_ret;exact Up.e2

/-! ### spec_l1Base: function 93 -/
def spec_l1Base.f (a0 : ByteArray) : Option (Bool):=if a0.toList = ([110] : List UInt8) then (some true) else (if a0.toList = ([98] : List UInt8) then (some true) else (some (a0.toList == ([111] : List UInt8))))
set_option maxHeartbeats 8000000 in
set_option maxRecDepth 100000 in
theorem spec_l1Base.calls (a0 : ByteArray) (r : Bool) (w : World) (h : spec_l1Base.f a0 = some r) :
  Calls Try.prog 93 #[.string a0] w fun e w' => e = .returned (.bool r) ∧ Drawn0 w w':=by
 have H : (if a0.toList = ([110] : List UInt8) then (some true) else (if a0.toList = ([98] : List UInt8) then (some true) else (some (a0.toList == ([111] : List UInt8))))) = some r:=h;clear h;by_cases c2 : a0.toList = ([110] : List UInt8)
 ·(rw [if_pos c2] at H);have c2b0 : (a0.toList == ([110] : List UInt8)) = true:=beq_iff_eq.mpr c2;have c2b1 : (a0.toList != ([110] : List UInt8)) = false:=bne_eq_false_iff_eq.mpr c2;clear c2;obtain rfl:=Option.some.inj H;go_enter Try.func93,Try.ntmps93;go_wp2;go_ret;exact Up.e2
 ·(rw [if_neg c2] at H);have c2b0 : (a0.toList == ([110] : List UInt8)) = false:=beq_eq_false_iff_ne.mpr c2;have c2b1 : (a0.toList != ([110] : List UInt8)) = true:=bne_iff_ne.mpr c2;by_cases c3 : a0.toList = ([98] : List UInt8)
  ·(rw [if_pos c3] at H);have c3b0 : (a0.toList == ([98] : List UInt8)) = true:=beq_iff_eq.mpr c3;have c3b1 : (a0.toList != ([98] : List UInt8)) = false:=bne_eq_false_iff_eq.mpr c3;clear c3;obtain rfl:=Option.some.inj H;go_enter Try.func93,Try.ntmps93;go_wp2;go_ret;exact Up.e2
  ·(rw [if_neg c3] at H);have c3b0 : (a0.toList == ([98] : List UInt8)) = false:=beq_eq_false_iff_ne.mpr c3;have c3b1 : (a0.toList != ([98] : List UInt8)) = true:=bne_iff_ne.mpr c3;obtain rfl:=Option.some.inj H;go_enter Try.func93,Try.ntmps93;go_wp2;go_ret;exact Up.e2

/-! ### spec_l1Field: function 125 -/
def spec_l1Field.f (l0 : List (List (S113))) (a1 : Int) (a2 : Int) (a3 : ByteArray) : Option (Bool):=(spec_l1Kind.f a3).bind fun bt164 => (if bt164.2.2 = true then ((spec_l1Has.f l0 bt164.1 bt164.2.1).bind fun t167 => (if t167 = true then (if bt164.1 < a1 then (some true) else (if bt164.1 = a1 then (some (decide (bt164.2.1 < a2))) else (some false))) else (some false))) else ((spec_l1Base.f a3).bind fun t168 => (some t168)))
set_option maxHeartbeats 8000000 in
set_option maxRecDepth 100000 in
theorem spec_l1Field.calls (A0 : Option Addr) (c0 : Nat) (l0 : List (List (S113))) (a1 : Int) (a2 : Int) (a3 : ByteArray) (r : Bool) (w : World) (hr0 : Kd.C (Kd.slice 113 k113) w A0 l0.length l0) (hc0 : l0.length ≤ c0) (h : spec_l1Field.f l0 a1 a2 a3 = some r) :
  Calls Try.prog 125 #[.slice A0 l0.length c0,.int .i64 a1,.int .i64 a2,.string a3] w fun e w' => e = .returned (.bool r) ∧ Drawn0 w w':=by
 have HR0:=Aside0.mk hr0;have HC0:=Aside0.mk hc0;clear hr0 hc0;have H : ((spec_l1Kind.f a3).bind fun bt164 => (if bt164.2.2 = true then ((spec_l1Has.f l0 bt164.1 bt164.2.1).bind fun t167 => (if t167 = true then (if bt164.1 < a1 then (some true) else (if bt164.1 = a1 then (some (decide (bt164.2.1 < a2))) else (some false))) else (some false))) else ((spec_l1Base.f a3).bind fun t168 => (some t168)))) = some r:=h;clear h;replace H:=Up.bd H;obtain ⟨⟨t164,t165,t166⟩,A5,H⟩:=H;(try dsimp only at H);by_cases c6 : t166 = true
 ·subst c6;(rw [if_pos rfl] at H);replace H:=Up.bd H;obtain ⟨t167,A7,H⟩:=H;(try dsimp only at H);by_cases c8 : t167 = true
  ·subst c8;(rw [if_pos rfl] at H);by_cases c9 : t164 < a1
   ·(rw [if_pos c9] at H);have c9b0:=decide_eq_true c9;clear c9;obtain rfl:=Option.some.inj H;go_enter Try.func125,Try.ntmps125;go_wp2_with (first | ((with_reducible refine gate_callee (f:=50) rfl ?_);refine Up.gl (some 14) Try.func50 #[.string a3] ?_;(with_reducible refine (spec_l1Kind.calls a3 t164 t165 true _ A5.out).mono ?_);rintro e w' ⟨rfl,⟨nd,rfl⟩⟩;refine ⟨_,rfl,?_⟩) | ((with_reducible refine gate_callee (f:=87) rfl ?_);refine Up.gl (some 25) Try.func87 #[.slice A0 l0.length c0,.int .i64 t164,.int .i64 t165] ?_;(with_reducible refine (spec_l1Has.calls _ _ l0 t164 t165 true _ ?side1 ?side2 A7.out).mono ?_);(case side1 => repeat (first | exact HR0.out | (with_reducible refine Kd.C_alloc ?_ _) | (with_reducible refine Kd.C_drewN ?_ _) | (with_reducible refine Kd.C_drew ?_)));(case side2 => exact HC0.out);rintro e w' ⟨rfl,⟨nd,rfl⟩⟩;refine ⟨_,rfl,?_⟩));go_ret;exact Up.e2
   ·(rw [if_neg c9] at H);have c9b0:=decide_eq_false c9;clear c9;by_cases c10 : t164 = a1
    ·(rw [if_pos c10] at H);have c10b0 : (t164 == a1) = true:=beq_iff_eq.mpr c10;have c10b1 : (t164 != a1) = false:=bne_eq_false_iff_eq.mpr c10;clear c10;obtain rfl:=Option.some.inj H;go_enter Try.func125,Try.ntmps125;go_wp2_with (first | ((with_reducible refine gate_callee (f:=50) rfl ?_);refine Up.gl (some 14) Try.func50 #[.string a3] ?_;(with_reducible refine (spec_l1Kind.calls a3 t164 t165 true _ A5.out).mono ?_);rintro e w' ⟨rfl,⟨nd,rfl⟩⟩;refine ⟨_,rfl,?_⟩) | ((with_reducible refine gate_callee (f:=87) rfl ?_);refine Up.gl (some 25) Try.func87 #[.slice A0 l0.length c0,.int .i64 t164,.int .i64 t165] ?_;(with_reducible refine (spec_l1Has.calls _ _ l0 t164 t165 true _ ?side1 ?side2 A7.out).mono ?_);(case side1 => repeat (first | exact HR0.out | (with_reducible refine Kd.C_alloc ?_ _) | (with_reducible refine Kd.C_drewN ?_ _) | (with_reducible refine Kd.C_drew ?_)));(case side2 => exact HC0.out);rintro e w' ⟨rfl,⟨nd,rfl⟩⟩;refine ⟨_,rfl,?_⟩));go_ret;exact Up.e2
    ·(rw [if_neg c10] at H);have c10b0 : (t164 == a1) = false:=beq_eq_false_iff_ne.mpr c10;have c10b1 : (t164 != a1) = true:=bne_iff_ne.mpr c10;obtain rfl:=Option.some.inj H;go_enter Try.func125,Try.ntmps125;go_wp2_with (first | ((with_reducible refine gate_callee (f:=50) rfl ?_);refine Up.gl (some 14) Try.func50 #[.string a3] ?_;(with_reducible refine (spec_l1Kind.calls a3 t164 t165 true _ A5.out).mono ?_);rintro e w' ⟨rfl,⟨nd,rfl⟩⟩;refine ⟨_,rfl,?_⟩) | ((with_reducible refine gate_callee (f:=87) rfl ?_);refine Up.gl (some 25) Try.func87 #[.slice A0 l0.length c0,.int .i64 t164,.int .i64 t165] ?_;(with_reducible refine (spec_l1Has.calls _ _ l0 t164 t165 true _ ?side1 ?side2 A7.out).mono ?_);(case side1 => repeat (first | exact HR0.out | (with_reducible refine Kd.C_alloc ?_ _) | (with_reducible refine Kd.C_drewN ?_ _) | (with_reducible refine Kd.C_drew ?_)));(case side2 => exact HC0.out);rintro e w' ⟨rfl,⟨nd,rfl⟩⟩;refine ⟨_,rfl,?_⟩));go_ret;exact Up.e2
  ·replace c8:=Bool.eq_false_iff.mpr c8;subst c8;(rw [if_neg (show ¬ (false = true) by decide)] at H);obtain rfl:=Option.some.inj H;go_enter Try.func125,Try.ntmps125;go_wp2_with (first | ((with_reducible refine gate_callee (f:=50) rfl ?_);refine Up.gl (some 14) Try.func50 #[.string a3] ?_;(with_reducible refine (spec_l1Kind.calls a3 t164 t165 true _ A5.out).mono ?_);rintro e w' ⟨rfl,⟨nd,rfl⟩⟩;refine ⟨_,rfl,?_⟩) | ((with_reducible refine gate_callee (f:=87) rfl ?_);refine Up.gl (some 25) Try.func87 #[.slice A0 l0.length c0,.int .i64 t164,.int .i64 t165] ?_;(with_reducible refine (spec_l1Has.calls _ _ l0 t164 t165 false _ ?side1 ?side2 A7.out).mono ?_);(case side1 => repeat (first | exact HR0.out | (with_reducible refine Kd.C_alloc ?_ _) | (with_reducible refine Kd.C_drewN ?_ _) | (with_reducible refine Kd.C_drew ?_)));(case side2 => exact HC0.out);rintro e w' ⟨rfl,⟨nd,rfl⟩⟩;refine ⟨_,rfl,?_⟩));go_ret;exact Up.e2
 ·replace c6:=Bool.eq_false_iff.mpr c6;subst c6;(rw [if_neg (show ¬ (false = true) by decide)] at H);replace H:=Up.bd H;obtain ⟨t168,A11,H⟩:=H;(try dsimp only at H);obtain rfl:=Option.some.inj H;go_enter Try.func125,Try.ntmps125;go_wp2_with (first | ((with_reducible refine gate_callee (f:=50) rfl ?_);refine Up.gl (some 14) Try.func50 #[.string a3] ?_;(with_reducible refine (spec_l1Kind.calls a3 t164 t165 false _ A5.out).mono ?_);rintro e w' ⟨rfl,⟨nd,rfl⟩⟩;refine ⟨_,rfl,?_⟩) | ((with_reducible refine gate_callee (f:=93) rfl ?_);refine Up.gl (some 21) Try.func93 #[.string a3] ?_;(with_reducible refine (spec_l1Base.calls a3 t168 _ A11.out).mono ?_);rintro e w' ⟨rfl,⟨nd,rfl⟩⟩;refine ⟨_,rfl,?_⟩));go_ret;exact Up.e2

end Go.Proofs.Ytdgmlakgnbmbbaa.OFnExactValueRead
