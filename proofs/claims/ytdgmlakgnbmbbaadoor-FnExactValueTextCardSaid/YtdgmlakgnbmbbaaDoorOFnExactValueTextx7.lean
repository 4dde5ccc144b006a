-- Laid by a program of this session (wip/myprint.py): the kit's print of the functions, contracts of our own among them.
import Derived.Test.YtdgmlakgnbmbbaaDoorOFnExactValueTextx0
import Derived.Test.YtdgmlakgnbmbbaaDoorOFnExactValueTextx6
namespace Go.Proofs.YtdgmlakgnbmbbaaDoor.OFnExactValueText
open Go.RowKit Go.Proofs.YtdgmlakgnbmbbaaDoorW.PrintWords Go.Proofs.YtdgmlakgnbmbbaaDoorW.PrintLast Go.Proofs.YtdgmlakgnbmbbaaDoorW.PrintMore
attribute [local go_sem] max2_int min2_int max_two min_two max_three min_three max_four min_four   -- for this text's walks alone
set_option linter.unusedVariables false
set_option linter.unusedSimpArgs false

/-! ### spec_KindsBad: function 57 -/
mutual
def spec_KindsBad.l0 : Nat → List (List (S81)) → Int → Option (Int × Int)
 | 0,_,_ => none
 | k + 1,x0,x4 => if x4 < (x0.length : Int) then (if 0 ≤ x4 then (if ((rd_L4 x0 x4).length : Int) > 3 then (some (x4,3)) else (spec_KindsBad.l1 k x0 x4 0)) else (none)) else (some ((-1),(-1)))
def spec_KindsBad.l1 : Nat → List (List (S81)) → Int → Int → Option (Int × Int)
 | 0,_,_,_ => none
 | k + 1,x0,x4,x5 => if 0 ≤ x4 then (if x4 < (x0.length : Int) then (if x5 < ((rd_L4 x0 x4).length : Int) then ((spec_l1Record.f k x0 x4 x5).bind fun t197 => (if t197 = true then (spec_KindsBad.l1 k x0 x4 (wrap64 (x5 + 1))) else (some (x4,x5)))) else (spec_KindsBad.l0 k x0 (wrap64 (x4 + 1)))) else (none)) else (none)
end
def spec_KindsBad.f (k : Nat) (l0 : List (List (S81))) : Option (Int × Int):=if (l0.length : Int) > 3 then (some (3,0)) else (spec_KindsBad.l0 k l0 0)
theorem spec_KindsBad.mono_l : ∀ k,(∀ y0 y1,LeO (spec_KindsBad.l0 k y0 y1) (spec_KindsBad.l0 (k + 1) y0 y1)) ∧ (∀ y0 y1 y2,LeO (spec_KindsBad.l1 k y0 y1 y2) (spec_KindsBad.l1 (k + 1) y0 y1 y2))
 | 0 => ⟨fun _ _ r h => by simp [spec_KindsBad.l0] at h,fun _ _ _ r h => by simp [spec_KindsBad.l1] at h⟩
 | k + 1 => by
  obtain ⟨ih0,ih1⟩:=spec_KindsBad.mono_l k
  refine ⟨?_,?_⟩
  ·intro y0 y1
   unfold spec_KindsBad.l0
   repeat' first
   | (with_reducible exact ih0 _ _)
   | (with_reducible exact ih1 _ _ _)
   | (with_reducible exact spec_l1Record.mono _ _ _ _)
   | (with_reducible exact LeO.refl _)
   | (with_reducible exact LeO.none _)
   | (with_reducible refine LeO.ite ?_ ?_)
   | (with_reducible refine LeO.bind ?_ (fun _ => ?_))
   | exact ih0 _ _
   | exact ih1 _ _ _
   | exact spec_l1Record.mono _ _ _ _
   | exact LeO.none _
   | refine LeO.ite ?_ ?_
   | refine LeO.bind ?_ (fun _ => ?_)
  ·intro y0 y1 y2
   unfold spec_KindsBad.l1
   repeat' first
   | (with_reducible exact ih0 _ _)
   | (with_reducible exact ih1 _ _ _)
   | (with_reducible exact spec_l1Record.mono _ _ _ _)
   | (with_reducible exact LeO.refl _)
   | (with_reducible exact LeO.none _)
   | (with_reducible refine LeO.ite ?_ ?_)
   | (with_reducible refine LeO.bind ?_ (fun _ => ?_))
   | exact ih0 _ _
   | exact ih1 _ _ _
   | exact spec_l1Record.mono _ _ _ _
   | exact LeO.none _
   | refine LeO.ite ?_ ?_
   | refine LeO.bind ?_ (fun _ => ?_)
theorem spec_KindsBad.mono : ∀ a0 k,LeO (spec_KindsBad.f k a0) (spec_KindsBad.f (k + 1) a0):=by
 intro a0 k
 obtain ⟨ih0,ih1⟩:=spec_KindsBad.mono_l k
 unfold spec_KindsBad.f
 repeat' first
   | (with_reducible exact ih0 _ _)
   | (with_reducible exact ih1 _ _ _)
   | (with_reducible exact spec_l1Record.mono _ _ _ _)
   | (with_reducible exact LeO.refl _)
   | (with_reducible exact LeO.none _)
   | (with_reducible refine LeO.ite ?_ ?_)
   | (with_reducible refine LeO.bind ?_ (fun _ => ?_))
   | exact ih0 _ _
   | exact ih1 _ _ _
   | exact spec_l1Record.mono _ _ _ _
   | exact LeO.none _
   | refine LeO.ite ?_ ?_
   | refine LeO.bind ?_ (fun _ => ?_)
set_option maxHeartbeats 8000000 in
set_option maxRecDepth 100000 in
theorem spec_KindsBad.calls (k : Nat) (A0 : Option Addr) (c0 : Nat) (l0 : List (List (S81))) (r1 : Int) (r2 : Int) (w : World) (hr0 : Kd.C (Kd.slice 81 k81) w A0 l0.length l0) (hc0 : l0.length ≤ c0) (h : spec_KindsBad.f k l0 = some (r1,r2)) :
  Calls Tryd.prog 57 #[.slice A0 l0.length c0] w fun e w' => e = .returned (.tuple #[.int .i64 r1,.int .i64 r2]) ∧ Below w.heap.size w w':=by
 have HR0:=Aside0.mk hr0
 have HC0:=Aside0.mk hc0
 clear hr0 hc0
 have HB:=Aside0.mk (Below.refl w.heap.size w)
 have H : (if (l0.length : Int) > 3 then (some (3,0)) else (spec_KindsBad.l0 k l0 0)) = some (r1,r2):=h
 clear h
 by_cases c2 : (l0.length : Int) > 3
 ·rw [if_pos c2] at H
  have c2b0 : decide (3 < (l0.length : Int)) = true:=decide_eq_true c2
  have c2b1 : decide (3 < l0.length) = true:=decide_eq_true (by omega)
  clear c2
  simp only [Option.some.injEq,Prod.mk.injEq] at H
  obtain ⟨rfl,rfl⟩:=H
  go_enter Tryd.func57,Tryd.ntmps57
  go_wp2
  go_ret2
  exact Up.e1 (Up.Bup HB)
 ·rw [if_neg c2] at H
  have c2b0 : decide (3 < (l0.length : Int)) = false:=decide_eq_false c2
  have c2b1 : decide (3 < l0.length) = false:=decide_eq_false (by omega)
  clear c2
  have H':=Aside0.mk H
  clear H
  go_enter Tryd.func57,Tryd.ntmps57
  go_wp2
  go_loopg [4] k (fun kq v4 w' => ∃ (x4_1 : Int),v4 = .int .i64 x4_1 ∧ Aside0 (spec_KindsBad.l0 kq l0 x4_1 = some (r1,r2)) ∧ Aside0 (kq ≤ k) ∧ Aside0 (Below w.heap.size w w'))
  case atStart => exact ⟨(0),(by first | rfl | (simp;done) | (simp [*];done)),H',⟨Nat.le_refl _⟩,⟨Up.Bup HB⟩⟩
  case round =>
   clear H'
   try clear c2
   try clear c2b0
   try clear c2b1
   try clear p2
   obtain ⟨x4_1,rfl,HA,HK1,HB⟩:=hrel
   cases gk with
   | zero => exact absurd HA.out (by simp [spec_KindsBad.l0])
   | succ k1 =>
    have H:=HA.out
    clear HA
    simp only [spec_KindsBad.l0] at H
    by_cases c3 : x4_1 < (l0.length : Int)
    ·rw [if_pos c3] at H
     have c3b0 : decide (x4_1 < (l0.length : Int)) = true:=decide_eq_true c3
     clear c3
     by_cases c4 : 0 ≤ x4_1
     ·rw [if_pos c4] at H
      have c4b0 : decide (0 ≤ x4_1) = true:=decide_eq_true c4
      clear c4
      by_cases c5 : ((rd_L4 l0 x4_1).length : Int) > 3
      ·rw [if_pos c5] at H
       have c5b0 : decide (3 < ((rd_L4 l0 x4_1).length : Int)) = true:=decide_eq_true c5
       have c5b1 : decide (3 < (rd_L4 l0 x4_1).length) = true:=decide_eq_true (by omega)
       clear c5
       simp only [Option.some.injEq,Prod.mk.injEq] at H
       obtain ⟨rfl,rfl⟩:=H
       have p195 : 0 ≤ (x4_1 : Int):=Up.od
       have q195 : x4_1 < (l0.length : Int):=Up.od
       obtain ⟨ad195,A195_0,c195_0,e195,hx195_0,hl195_0,hi195_0⟩:=at_L4 HR0.out x4_1 p195 q195
       cases e195
       replace hx195_0:=Up.hc HB hx195_0
       have HR195_0:=Aside0.mk hi195_0
       have HC195_0:=Aside0.mk hl195_0
       clear hi195_0 hl195_0
       replace p195:=eq_true p195
       replace q195:=eq_true q195
       go_wp2
       go_ret2
       exact Up.e1 (Up.Bup HB)
      ·rw [if_neg c5] at H
       have c5b0 : decide (3 < ((rd_L4 l0 x4_1).length : Int)) = false:=decide_eq_false c5
       have c5b1 : decide (3 < (rd_L4 l0 x4_1).length) = false:=decide_eq_false (by omega)
       clear c5
       have H':=Aside0.mk H
       clear H
       have p195 : 0 ≤ (x4_1 : Int):=Up.od
       have q195 : x4_1 < (l0.length : Int):=Up.od
       obtain ⟨ad195,A195_0,c195_0,e195,hx195_0,hl195_0,hi195_0⟩:=at_L4 HR0.out x4_1 p195 q195
       cases e195
       replace hx195_0:=Up.hc HB hx195_0
       have HR195_0:=Aside0.mk hi195_0
       have HC195_0:=Aside0.mk hl195_0
       clear hi195_0 hl195_0
       replace p195:=eq_true p195
       replace q195:=eq_true q195
       go_wp2
       go_loopg [5] k1 (fun kq v5 w' => ∃ (x5_2 : Int),v5 = .int .i64 x5_2 ∧ Aside0 (spec_KindsBad.l1 kq l0 x4_1 x5_2 = some (r1,r2)) ∧ Aside0 (kq ≤ k1) ∧ Aside0 (Below w.heap.size w w'))
       case atStart => exact ⟨(0),(by first | rfl | (simp;done) | (simp [*];done)),H',⟨Nat.le_refl _⟩,⟨Up.Bup HB⟩⟩
       case round =>
        clear H'
        try clear c1
        try clear p1
        try clear q1
        try clear hx1
        try clear c2
        try clear c2b0
        try clear c2b1
        try clear p2
        try clear c3
        try clear c3b0
        try clear c4
        try clear c4b0
        try clear c5
        try clear c5b0
        try clear c5b1
        try clear hx195_0
        try clear p195
        try clear p2
        try clear q195
        obtain ⟨x5_2,rfl,HA,HK2,HB⟩:=hrel
        cases gk with
        | zero => exact absurd HA.out (by simp [spec_KindsBad.l1])
        | succ k2 =>
         have H:=HA.out
         clear HA
         simp only [spec_KindsBad.l1] at H
         by_cases c6 : 0 ≤ x4_1
         ·rw [if_pos c6] at H
          have c6b0 : decide (0 ≤ x4_1) = true:=decide_eq_true c6
          clear c6
          by_cases c7 : x4_1 < (l0.length : Int)
          ·rw [if_pos c7] at H
           have c7b0 : decide (x4_1 < (l0.length : Int)) = true:=decide_eq_true c7
           clear c7
           by_cases c8 : x5_2 < ((rd_L4 l0 x4_1).length : Int)
           ·rw [if_pos c8] at H
            have c8b0 : decide (x5_2 < ((rd_L4 l0 x4_1).length : Int)) = true:=decide_eq_true c8
            clear c8
            replace H:=Option.bind_eq_some_iff.mp H
            obtain ⟨t197,A90,H⟩:=H
            replace H : (if t197 = true then (spec_KindsBad.l1 k2 l0 x4_1 (wrap64 (x5_2 + 1))) else (some (x4_1,x5_2))) = some (r1,r2):=H
            have A9:=Aside0.mk A90
            clear A90
            by_cases c10 : t197 = true
            ·subst c10
             have H1 : (spec_KindsBad.l1 k2 l0 x4_1 (wrap64 (x5_2 + 1))) = some (r1,r2):=by rw [if_pos rfl] at H;exact H
             clear H
             have H:=H1
             clear H1
             have H':=Aside0.mk H
             clear H
             have p196 : 0 ≤ (x4_1 : Int):=Up.od
             have q196 : x4_1 < (l0.length : Int):=Up.od
             obtain ⟨ad196,A196_0,c196_0,e196,hx196_0,hl196_0,hi196_0⟩:=at_L4 HR0.out x4_1 p196 q196
             obtain rfl : ad195 = ad196:=(by injection e196)
             replace hx196_0:=Up.hc HB hx196_0
             have HR196_0:=Aside0.mk hi196_0
             have HC196_0:=Aside0.mk hl196_0
             clear hi196_0 hl196_0
             replace p196:=eq_true p196
             replace q196:=eq_true q196
             go_wp2_with (first | ((with_reducible refine gate_callee (f:=72) rfl ?_);refine Up.gl (some 34) Tryd.func72 #[.slice (some ad195) l0.length c0,.int .i64 x4_1,.int .i64 x5_2] ?_;(with_reducible refine (spec_l1Record.calls k2 _ _ l0 x4_1 x5_2 true _ ?side1 ?side2 A9.out).mono ?_);(case side1 => exact Up.Cx HR0 HB);(case side2 => exact HC0.out);rintro e w11 ⟨rfl,hb⟩;refine ⟨_,rfl,?_⟩;have n0_:=Up.BB HB hb;clear HB;have HB:=n0_;clear n0_;(try clear hb);(try clear hb2);(try clear hk);(try clear hi)))
             go_roundg k2
             case measure => have:=HK1.out;have:=HK2.out;omega
             case rel => exact ⟨(wrap64 (x5_2 + 1)),(by first | rfl | (simp;done) | (simp [*];done)),H',⟨by have:=HK1.out;have:=HK2.out;omega⟩,⟨Up.Bup HB⟩⟩
            ·replace c10:=Bool.eq_false_iff.mpr c10
             subst c10
             have H1 : (some (x4_1,x5_2)) = some (r1,r2):=by rw [if_neg (show ¬ (false = true) by decide)] at H;exact H
             clear H
             have H:=H1
             clear H1
             simp only [Option.some.injEq,Prod.mk.injEq] at H
             obtain ⟨rfl,rfl⟩:=H
             have p196 : 0 ≤ (x4_1 : Int):=Up.od
             have q196 : x4_1 < (l0.length : Int):=Up.od
             obtain ⟨ad196,A196_0,c196_0,e196,hx196_0,hl196_0,hi196_0⟩:=at_L4 HR0.out x4_1 p196 q196
             obtain rfl : ad195 = ad196:=(by injection e196)
             replace hx196_0:=Up.hc HB hx196_0
             have HR196_0:=Aside0.mk hi196_0
             have HC196_0:=Aside0.mk hl196_0
             clear hi196_0 hl196_0
             replace p196:=eq_true p196
             replace q196:=eq_true q196
             go_wp2_with (first | ((with_reducible refine gate_callee (f:=72) rfl ?_);refine Up.gl (some 34) Tryd.func72 #[.slice (some ad195) l0.length c0,.int .i64 x4_1,.int .i64 x5_2] ?_;(with_reducible refine (spec_l1Record.calls k2 _ _ l0 x4_1 x5_2 false _ ?side1 ?side2 A9.out).mono ?_);(case side1 => exact Up.Cx HR0 HB);(case side2 => exact HC0.out);rintro e w12 ⟨rfl,hb⟩;refine ⟨_,rfl,?_⟩;have n0_:=Up.BB HB hb;clear HB;have HB:=n0_;clear n0_;(try clear hb);(try clear hb2);(try clear hk);(try clear hi)))
             go_ret2
             exact Up.e1 (Up.Bup HB)
           ·rw [if_neg c8] at H
            have c8b0 : decide (x5_2 < ((rd_L4 l0 x4_1).length : Int)) = false:=decide_eq_false c8
            clear c8
            have H':=Aside0.mk H
            clear H
            have p196 : 0 ≤ (x4_1 : Int):=Up.od
            have q196 : x4_1 < (l0.length : Int):=Up.od
            obtain ⟨ad196,A196_0,c196_0,e196,hx196_0,hl196_0,hi196_0⟩:=at_L4 HR0.out x4_1 p196 q196
            obtain rfl : ad195 = ad196:=(by injection e196)
            replace hx196_0:=Up.hc HB hx196_0
            have HR196_0:=Aside0.mk hi196_0
            have HC196_0:=Aside0.mk hl196_0
            clear hi196_0 hl196_0
            replace p196:=eq_true p196
            replace q196:=eq_true q196
            go_wp2
            go_roundg k2
            case measure => have:=HK1.out;have:=HK2.out;omega
            case rel => exact ⟨(wrap64 (x4_1 + 1)),(by first | rfl | (simp;done) | (simp [*];done)),H',⟨by have:=HK1.out;have:=HK2.out;omega⟩,⟨Up.Bup HB⟩⟩
          ·rw [if_neg c7] at H
           exact absurd H (by simp)
         ·rw [if_neg c6] at H
          exact absurd H (by simp)
     ·rw [if_neg c4] at H
      exact absurd H (by simp)
    ·rw [if_neg c3] at H
     have c3b0 : decide (x4_1 < (l0.length : Int)) = false:=decide_eq_false c3
     clear c3
     simp only [Option.some.injEq,Prod.mk.injEq] at H
     obtain ⟨rfl,rfl⟩:=H
     go_wp2
     go_ret2
     exact Up.e1 (Up.Bup HB)

/-! ### spec_KindsOk: function 30 -/
def spec_KindsOk.f (k : Nat) (l0 : List (List (S81))) : Option (Bool):=(spec_KindsBad.f k l0).bind fun bt198 => (some (decide (bt198.1 < 0)))
theorem spec_KindsOk.mono : ∀ a0 k,LeO (spec_KindsOk.f k a0) (spec_KindsOk.f (k + 1) a0):=by
 intro a0 k
 unfold spec_KindsOk.f
 repeat' first
   | (with_reducible exact spec_KindsBad.mono _ _)
   | (with_reducible exact LeO.refl _)
   | (with_reducible exact LeO.none _)
   | (with_reducible refine LeO.ite ?_ ?_)
   | (with_reducible refine LeO.bind ?_ (fun _ => ?_))
   | exact spec_KindsBad.mono _ _
   | exact LeO.none _
   | refine LeO.ite ?_ ?_
   | refine LeO.bind ?_ (fun _ => ?_)
set_option maxHeartbeats 8000000 in
set_option maxRecDepth 100000 in
theorem spec_KindsOk.calls (k : Nat) (A0 : Option Addr) (c0 : Nat) (l0 : List (List (S81))) (r : Bool) (w : World) (hr0 : Kd.C (Kd.slice 81 k81) w A0 l0.length l0) (hc0 : l0.length ≤ c0) (h : spec_KindsOk.f k l0 = some r) :
  Calls Tryd.prog 30 #[.slice A0 l0.length c0] w fun e w' => e = .returned (.bool r) ∧ Below w.heap.size w w':=by
 have HR0:=Aside0.mk hr0
 have HC0:=Aside0.mk hc0
 clear hr0 hc0
 have HB:=Aside0.mk (Below.refl w.heap.size w)
 have H : ((spec_KindsBad.f k l0).bind fun bt198 => (some (decide (bt198.1 < 0)))) = some r:=h
 clear h
 replace H:=Option.bind_eq_some_iff.mp H
 obtain ⟨⟨t198,t199⟩,A20,H⟩:=H
 replace H : (some (decide (t198 < 0))) = some r:=H
 have A2:=Aside0.mk A20
 clear A20
 obtain rfl:=Option.some.inj H
 go_enter Tryd.func30,Tryd.ntmps30
 go_wp2_with (first | ((with_reducible refine gate_callee (f:=57) rfl ?_);refine Up.gl (some 7) Tryd.func57 #[.slice A0 l0.length c0] ?_;(with_reducible refine (spec_KindsBad.calls k _ _ l0 t198 t199 _ ?side1 ?side2 A2.out).mono ?_);(case side1 => repeat (first | exact HR0.out | (with_reducible refine Kd.C_alloc ?_ _) | (with_reducible refine Kd.C_drewN ?_ _) | (with_reducible refine Kd.C_drew ?_)));(case side2 => exact HC0.out);rintro e w3 ⟨rfl,hb⟩;refine ⟨_,rfl,?_⟩;have n0_:=Up.BB HB hb;clear HB;have HB:=n0_;clear n0_;(try clear hb);(try clear hb2);(try clear hk);(try clear hi)))
 go_ret
 exact Up.e1 (Up.Bup HB)

/-! ### spec_l2Plain: function 58 -/
def spec_l2Plain.f (a0_0 : ByteArray) (a0_1 : Int) (l0_2 : List (S27)) (l0_3 : List Int) : Option (Bool):=if (l0_2.length : Int) = 0 then (some ((l0_3.length : Int) == 0)) else (some false)
set_option maxHeartbeats 8000000 in
set_option maxRecDepth 100000 in
theorem spec_l2Plain.calls (a0_0 : ByteArray) (a0_1 : Int) (A0_2 : Option Addr) (c0_2 : Nat) (l0_2 : List (S27)) (A0_3 : Option Addr) (c0_3 : Nat) (l0_3 : List Int) (r : Bool) (w : World) (hr0_2 : Kd.C k27 w A0_2 l0_2.length l0_2) (hc0_2 : l0_2.length ≤ c0_2) (hr0_3 : Kd.C (Kd.int .i64) w A0_3 l0_3.length l0_3) (hc0_3 : l0_3.length ≤ c0_3) (h : spec_l2Plain.f a0_0 a0_1 l0_2 l0_3 = some r) :
  Calls Tryd.prog 58 #[.agg #[.string a0_0,.int .i64 a0_1,.slice A0_2 l0_2.length c0_2,.slice A0_3 l0_3.length c0_3]] w fun e w' => e = .returned (.bool r) ∧ Below w.heap.size w w':=by
 have hu27:=Tryd.underlying27
 have HR0_2:=Aside0.mk hr0_2
 have HC0_2:=Aside0.mk hc0_2
 clear hr0_2 hc0_2
 have HR0_3:=Aside0.mk hr0_3
 have HC0_3:=Aside0.mk hc0_3
 clear hr0_3 hc0_3
 have HB:=Aside0.mk (Below.refl w.heap.size w)
 have H : (if (l0_2.length : Int) = 0 then (some ((l0_3.length : Int) == 0)) else (some false)) = some r:=h
 clear h
 by_cases c2 : (l0_2.length : Int) = 0
 ·rw [if_pos c2] at H
  have c2b0 : ((l0_2.length : Int) == 0) = true:=beq_iff_eq.mpr c2
  have c2b1 : ((l0_2.length : Int) != 0) = false:=bne_eq_false_iff_eq.mpr c2
  clear c2
  obtain rfl:=Option.some.inj H
  go_enter Tryd.func58,Tryd.ntmps58
  go_wp2_with (first | ((with_reducible refine gate_dst (N:=1) rfl ?_);(try (refine gate_guard (by rfl) ?_;dsimp only));refine Up.bx 1 27 #[.string a0_0,.int .i64 a0_1,.slice A0_2 l0_2.length c0_2,.slice A0_3 l0_3.length c0_3] ?_;intro gb200 hg w3 hbox hb;have n0_:=Up.BB HB hb;have n1_:=Aside0.mk (hbox);have n2_:=Up.gw hg HB;have n3_:=Up.gw hg HB;clear HB;have HB:=n0_;have BK200:=n1_;have GW200:=n2_;have GE200:=n3_;clear n0_ n1_ n2_ n3_ hb hbox hg;have hcz4_0:=Up.c0 BK200;have hcz4_1:=Up.c1 BK200;have hcz4_2:=Up.c2 BK200;have hcz4_3:=Up.c3 BK200;have hfz4_0:=blk_frozen BK200.out 0;have hfz4_1:=blk_frozen BK200.out 1;have hfz4_2:=blk_frozen BK200.out 2;have hfz4_3:=blk_frozen BK200.out 3))
  go_ret
  exact Up.e1 (Up.Bx HB)
 ·rw [if_neg c2] at H
  have c2b0 : ((l0_2.length : Int) == 0) = false:=beq_eq_false_iff_ne.mpr c2
  have c2b1 : ((l0_2.length : Int) != 0) = true:=bne_iff_ne.mpr c2
  have c2b2 : ¬ (l0_2 = []):=fun h_ => c2 (by rw [h_];rfl)
  obtain rfl:=Option.some.inj H
  go_enter Tryd.func58,Tryd.ntmps58
  go_wp2_with (first | ((with_reducible refine gate_dst (N:=1) rfl ?_);(try (refine gate_guard (by rfl) ?_;dsimp only));refine Up.bx 1 27 #[.string a0_0,.int .i64 a0_1,.slice A0_2 l0_2.length c0_2,.slice A0_3 l0_3.length c0_3] ?_;intro gb200 hg w5 hbox hb;have n0_:=Up.BB HB hb;have n1_:=Aside0.mk (hbox);have n2_:=Up.gw hg HB;have n3_:=Up.gw hg HB;clear HB;have HB:=n0_;have BK200:=n1_;have GW200:=n2_;have GE200:=n3_;clear n0_ n1_ n2_ n3_ hb hbox hg;have hcz6_0:=Up.c0 BK200;have hcz6_1:=Up.c1 BK200;have hcz6_2:=Up.c2 BK200;have hcz6_3:=Up.c3 BK200;have hfz6_0:=blk_frozen BK200.out 0;have hfz6_1:=blk_frozen BK200.out 1;have hfz6_2:=blk_frozen BK200.out 2;have hfz6_3:=blk_frozen BK200.out 3))
  go_ret
  exact Up.e1 (Up.Bx HB)

end Go.Proofs.YtdgmlakgnbmbbaaDoor.OFnExactValueText
