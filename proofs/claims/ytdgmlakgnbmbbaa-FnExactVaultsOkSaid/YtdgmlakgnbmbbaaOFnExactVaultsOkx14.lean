-- Laid by a program of this session (wip/myprint.py): the kit's print of the functions, contracts of our own among them.
import Derived.Test.YtdgmlakgnbmbbaaOFnExactVaultsOkx0
import Derived.Test.YtdgmlakgnbmbbaaOFnExactVaultsOkx1
import Derived.Test.YtdgmlakgnbmbbaaOFnExactVaultsOkx2
import Derived.Test.YtdgmlakgnbmbbaaOFnExactVaultsOkx6
import Derived.Test.YtdgmlakgnbmbbaaOFnExactVaultsOkx11
import Derived.Test.YtdgmlakgnbmbbaaOFnExactVaultsOkx12
import Derived.Test.YtdgmlakgnbmbbaaOFnExactVaultsOkx13
namespace Go.Proofs.Ytdgmlakgnbmbbaa.OFnExactVaultsOk
open Go.RowKit Go.Proofs.YtdgmlakgnbmbbaaW.PrintWords Go.Proofs.YtdgmlakgnbmbbaaW.PrintLast Go.Proofs.YtdgmlakgnbmbbaaW.PrintMore
attribute [local go_sem] max2_int min2_int max_two min_two max_three min_three max_four min_four   -- for this text's walks alone
set_option linter.unusedVariables false
set_option linter.unusedSimpArgs false

/-! ### laws_eqKeptS: function 32 -/
def laws_eqKeptS.l0 : Nat → List (S55) → List (S55) → Int → Option (Bool)
 | 0,_,_,_ => none
 | k + 1,x0,x1,x5 => if x5 < (x0.length : Int) then (if 0 ≤ x5 then (if x5 < (x1.length : Int) then ((laws_eqKept.f k ((rd_T55 x0 x5).f0) ((rd_T55 x0 x5).f1.f0) ((rd_T55 x0 x5).f1.f1) ((rd_T55 x0 x5).f1.f2) ((rd_T55 x0 x5).f1.f3) ((rd_T55 x1 x5).f0) ((rd_T55 x1 x5).f1.f0) ((rd_T55 x1 x5).f1.f1) ((rd_T55 x1 x5).f1.f2) ((rd_T55 x1 x5).f1.f3)).bind fun t352 => (if t352 = true then (laws_eqKeptS.l0 k x0 x1 (wrap64 (x5 + 1))) else (some false))) else (none)) else (none)) else (some true)
def laws_eqKeptS.f (k : Nat) (l0 : List (S55)) (l1 : List (S55)) : Option (Bool):=if (l0.length : Int) = (l1.length : Int) then (laws_eqKeptS.l0 k l0 l1 0) else (some false)
theorem laws_eqKeptS.mono_l : ∀ k,(∀ y0 y1 y2,LeO (laws_eqKeptS.l0 k y0 y1 y2) (laws_eqKeptS.l0 (k + 1) y0 y1 y2))
 | 0 => fun _ _ _ r h => by simp [laws_eqKeptS.l0] at h
 | k + 1 => by
  have ih0:=laws_eqKeptS.mono_l k
  ·intro y0 y1 y2
   unfold laws_eqKeptS.l0
   repeat' first
   | (with_reducible exact ih0 _ _ _)
   | (with_reducible exact laws_eqKept.mono _ _ _ _ _ _ _ _ _ _ _)
   | (with_reducible exact LeO.refl _)
   | (with_reducible exact LeO.none _)
   | (with_reducible refine LeO.ite ?_ ?_)
   | (with_reducible refine LeO.bind ?_ (fun _ => ?_))
   | exact ih0 _ _ _
   | exact laws_eqKept.mono _ _ _ _ _ _ _ _ _ _ _
   | exact LeO.none _
   | refine LeO.ite ?_ ?_
   | refine LeO.bind ?_ (fun _ => ?_)
theorem laws_eqKeptS.mono : ∀ a0 a1 k,LeO (laws_eqKeptS.f k a0 a1) (laws_eqKeptS.f (k + 1) a0 a1):=by
 intro a0 a1 k
 have ih0:=laws_eqKeptS.mono_l k
 unfold laws_eqKeptS.f
 repeat' first
   | (with_reducible exact ih0 _ _ _)
   | (with_reducible exact laws_eqKept.mono _ _ _ _ _ _ _ _ _ _ _)
   | (with_reducible exact LeO.refl _)
   | (with_reducible exact LeO.none _)
   | (with_reducible refine LeO.ite ?_ ?_)
   | (with_reducible refine LeO.bind ?_ (fun _ => ?_))
   | exact ih0 _ _ _
   | exact laws_eqKept.mono _ _ _ _ _ _ _ _ _ _ _
   | exact LeO.none _
   | refine LeO.ite ?_ ?_
   | refine LeO.bind ?_ (fun _ => ?_)
def laws_eqKeptS.T6 : Bool × List (List Nat × List Nat):=(true,[([],[]),([],[]),([0,1],[0,1]),([2],[2]),([],[]),([],[]),([4,5],[4,5]),([6],[6]),([3,7],[3,7]),([8],[8])])
def laws_eqKeptS.B6 : List Nat:=[0,0,3,7,0,0,48,112,255,511]
theorem laws_eqKeptS.tab6 : rtab .any (opsOf Try.f32 6) = laws_eqKeptS.T6:=by kernel_rfl
theorem laws_eqKeptS.bits6 : waitsOk laws_eqKeptS.T6.2 laws_eqKeptS.B6 = true:=by kernel_rfl
set_option maxHeartbeats 8000000 in
set_option maxRecDepth 100000 in
theorem laws_eqKeptS.calls (k : Nat) (A0 : Option Addr) (c0 : Nat) (l0 : List (S55)) (A1 : Option Addr) (c1 : Nat) (l1 : List (S55)) (r : Bool) (w : World) (hr0 : Kd.C k55 w A0 l0.length l0) (hc0 : l0.length ≤ c0) (hr1 : Kd.C k55 w A1 l1.length l1) (hc1 : l1.length ≤ c1) (h : laws_eqKeptS.f k l0 l1 = some r) :
  Calls Try.prog 32 #[.slice A0 l0.length c0,.slice A1 l1.length c1] w fun e w' => e = .returned (.bool r) ∧ Below w.heap.size w w':=by
 have hu55:=Try.underlying55
 have HR0:=Aside0.mk hr0
 have HC0:=Aside0.mk hc0
 clear hr0 hc0
 have HR1:=Aside0.mk hr1
 have HC1:=Aside0.mk hc1
 clear hr1 hc1
 have HB:=Aside0.mk (Below.refl w.heap.size w)
 have H : (if (l0.length : Int) = (l1.length : Int) then (laws_eqKeptS.l0 k l0 l1 0) else (some false)) = some r:=h
 clear h
 by_cases c3 : (l0.length : Int) = (l1.length : Int)
 ·rw [if_pos c3] at H
  have c3b0 : ((l0.length : Int) == (l1.length : Int)) = true:=beq_iff_eq.mpr c3
  have c3b1 : ((l0.length : Int) != (l1.length : Int)) = false:=bne_eq_false_iff_eq.mpr c3
  have c3b2 : (l0.length == l1.length) = true:=by first | simpa using c3 | (simp at c3 ⊢;omega)
  clear c3
  have H':=Aside0.mk H
  clear H
  go_enter Try.func32,Try.ntmps32
  go_wp2
  go_loopg [5] k (fun kq v5 w' => ∃ (x5_1 : Int),v5 = .int .i64 x5_1 ∧ Aside0 (laws_eqKeptS.l0 kq l0 l1 x5_1 = some r) ∧ Aside0 (kq ≤ k) ∧ Aside0 (Below w.heap.size w w'))
  case atStart => exact ⟨(0),(by first | rfl | (simp;done) | (simp [*];done)),H',⟨Nat.le_refl _⟩,⟨Up.Bup HB⟩⟩
  case round =>
   clear H'
   try clear c1
   try clear p2
   try clear c3
   try clear c3b0
   try clear c3b1
   try clear c3b2
   obtain ⟨x5_1,rfl,HA,HK1,HB⟩:=hrel
   cases gk with
   | zero => exact absurd HA.out (by simp [laws_eqKeptS.l0])
   | succ k1 =>
    have H:=HA.out
    clear HA
    simp only [laws_eqKeptS.l0] at H
    by_cases c4 : x5_1 < (l0.length : Int)
    ·rw [if_pos c4] at H
     have c4b0 : decide (x5_1 < (l0.length : Int)) = true:=decide_eq_true c4
     clear c4
     by_cases c5 : 0 ≤ x5_1
     ·rw [if_pos c5] at H
      have c5b0 : decide (0 ≤ x5_1) = true:=decide_eq_true c5
      clear c5
      by_cases c6 : x5_1 < (l1.length : Int)
      ·rw [if_pos c6] at H
       have c6b0 : decide (x5_1 < (l1.length : Int)) = true:=decide_eq_true c6
       clear c6
       replace H:=Option.bind_eq_some_iff.mp H
       obtain ⟨t352,A70,H⟩:=H
       replace H : (if t352 = true then (laws_eqKeptS.l0 k1 l0 l1 (wrap64 (x5_1 + 1))) else (some false)) = some r:=H
       have A7:=Aside0.mk A70
       clear A70
       by_cases c8 : t352 = true
       ·subst c8
        have H1 : (laws_eqKeptS.l0 k1 l0 l1 (wrap64 (x5_1 + 1))) = some r:=by rw [if_pos rfl] at H;exact H
        clear H
        have H:=H1
        clear H1
        have H':=Aside0.mk H
        clear H
        try go_wp2
        have n0_:=Aside0.mk (below_drew1 HB.out)
        clear HB
        have HB:=n0_
        clear n0_
        have p350 : 0 ≤ (x5_1 : Int):=Up.od
        have q350 : x5_1 < (l0.length : Int):=Up.od
        obtain ⟨ad350,A350_3,c350_3,A350_4,c350_4,e350,hx350_0,hx350_1,hx350_2,hx350_3,hx350_4,hl350_3,hi350_3,hl350_4,hi350_4⟩:=at_T55 HR0.out x5_1 p350 q350
        have hw350_4:=hx350_4
        have hw350_3:=hx350_3
        have hw350_2:=hx350_2
        have hw350_1:=hx350_1
        have hw350_0:=hx350_0
        cases e350
        replace hx350_0:=Up.hc HB hx350_0
        replace hx350_1:=Up.hc HB hx350_1
        replace hx350_2:=Up.hc HB hx350_2
        replace hx350_3:=Up.hc HB hx350_3
        replace hx350_4:=Up.hc HB hx350_4
        have HR350_3:=Aside0.mk hi350_3
        have HC350_3:=Aside0.mk hl350_3
        clear hi350_3 hl350_3
        have HR350_4:=Aside0.mk hi350_4
        have HC350_4:=Aside0.mk hl350_4
        clear hi350_4 hl350_4
        replace p350:=eq_true p350
        replace q350:=eq_true q350
        have p351 : 0 ≤ (x5_1 : Int):=Up.od
        have q351 : x5_1 < (l1.length : Int):=Up.od
        obtain ⟨ad351,A351_3,c351_3,A351_4,c351_4,e351,hx351_0,hx351_1,hx351_2,hx351_3,hx351_4,hl351_3,hi351_3,hl351_4,hi351_4⟩:=at_T55 HR1.out x5_1 p351 q351
        have hw351_4:=hx351_4
        have hw351_3:=hx351_3
        have hw351_2:=hx351_2
        have hw351_1:=hx351_1
        have hw351_0:=hx351_0
        cases e351
        replace hx351_0:=Up.hc HB hx351_0
        replace hx351_1:=Up.hc HB hx351_1
        replace hx351_2:=Up.hc HB hx351_2
        replace hx351_3:=Up.hc HB hx351_3
        replace hx351_4:=Up.hc HB hx351_4
        have HR351_3:=Aside0.mk hi351_3
        have HC351_3:=Aside0.mk hl351_3
        clear hi351_3 hl351_3
        have HR351_4:=Aside0.mk hi351_4
        have HC351_4:=Aside0.mk hl351_4
        clear hi351_4 hl351_4
        replace p351:=eq_true p351
        replace q351:=eq_true q351
        refine start_ (n:=10) (S:=fun w' => w'.cell? (ad350.add ((x5_1).toNat * 5)) = some (.int .i64 ((rd_T55 l0 x5_1).f0)) ∧ w'.cell? ⟨(ad350.add ((x5_1).toNat * 5)).block,(ad350.add ((x5_1).toNat * 5)).off + 1,none⟩ = some (.string ((rd_T55 l0 x5_1).f1.f0)) ∧ w'.cell? ⟨(ad350.add ((x5_1).toNat * 5)).block,(ad350.add ((x5_1).toNat * 5)).off + 2,none⟩ = some (.int .i64 ((rd_T55 l0 x5_1).f1.f1)) ∧ w'.cell? ⟨(ad350.add ((x5_1).toNat * 5)).block,(ad350.add ((x5_1).toNat * 5)).off + 3,none⟩ = some (.slice A350_3 ((rd_T55 l0 x5_1).f1.f2).length c350_3) ∧ w'.cell? ⟨(ad350.add ((x5_1).toNat * 5)).block,(ad350.add ((x5_1).toNat * 5)).off + 4,none⟩ = some (.slice A350_4 ((rd_T55 l0 x5_1).f1.f3).length c350_4) ∧ w'.cell? (ad351.add ((x5_1).toNat * 5)) = some (.int .i64 ((rd_T55 l1 x5_1).f0)) ∧ w'.cell? ⟨(ad351.add ((x5_1).toNat * 5)).block,(ad351.add ((x5_1).toNat * 5)).off + 1,none⟩ = some (.string ((rd_T55 l1 x5_1).f1.f0)) ∧ w'.cell? ⟨(ad351.add ((x5_1).toNat * 5)).block,(ad351.add ((x5_1).toNat * 5)).off + 2,none⟩ = some (.int .i64 ((rd_T55 l1 x5_1).f1.f1)) ∧ w'.cell? ⟨(ad351.add ((x5_1).toNat * 5)).block,(ad351.add ((x5_1).toNat * 5)).off + 3,none⟩ = some (.slice A351_3 ((rd_T55 l1 x5_1).f1.f2).length c351_3) ∧ w'.cell? ⟨(ad351.add ((x5_1).toNat * 5)).block,(ad351.add ((x5_1).toNat * 5)).off + 4,none⟩ = some (.slice A351_4 ((rd_T55 l1 x5_1).f1.f3).length c351_4)) (ds:=[]) #[false,false,false,false,false,false,false,false,false,false] (by kernel_rfl) rfl rfl ⟨(Up.hd HB hw350_0),(Up.hd HB hw350_1),(Up.hd HB hw350_2),(Up.hd HB hw350_3),(Up.hd HB hw350_4),(Up.hd HB hw351_0),(Up.hd HB hw351_1),(Up.hd HB hw351_2),(Up.hd HB hw351_3),(Up.hd HB hw351_4)⟩ (fun hHeld => ?_);refine with_tabW laws_eqKeptS.tab6 laws_eqKeptS.bits6 (fun HT_ HW_ => ?_)
        generalize wr.drew = w9 at HB HR350_3 HR350_4 HR351_3 HR351_4 hx350_0 hx350_1 hx350_2 hx350_3 hx350_4 hx351_0 hx351_1 hx351_2 hx351_3 hx351_4 hHeld ⊢
        refine Up.pu 0 (some 17) HT_ ?_
        refine Up.pu 1 (some 18) HT_ ?_
        refine Up.pu 2 (some 19) HT_ ?_
        refine Up.pu 4 (some 21) HT_ ?_
        refine Up.pu 5 (some 22) HT_ ?_
        refine Up.pu 6 (some 23) HT_ ?_
        refine Up.tk 3 (some 20) HT_ HW_ hHeld ?_ (hy:=by rintro w' ⟨s0,s1,s2,s3,s4,s5,s6,s7,s8,s9⟩;go_simp;with_reducible rfl)
        refine Up.tk 7 (some 24) HT_ HW_ hHeld ?_ (hy:=by rintro w' ⟨s0,s1,s2,s3,s4,s5,s6,s7,s8,s9⟩;go_simp;with_reducible rfl)
        refine Up.on 8 (some 25) HT_ (fun K hK => ?_)
        refine Up.go Try.func75 #[.agg #[.int .i64 ((rd_T55 l0 x5_1).f0),.string ((rd_T55 l0 x5_1).f1.f0),.int .i64 ((rd_T55 l0 x5_1).f1.f1),.slice A350_3 ((rd_T55 l0 x5_1).f1.f2).length c350_3,.slice A350_4 ((rd_T55 l0 x5_1).f1.f3).length c350_4],.agg #[.int .i64 ((rd_T55 l1 x5_1).f0),.string ((rd_T55 l1 x5_1).f1.f0),.int .i64 ((rd_T55 l1 x5_1).f1.f1),.slice A351_3 ((rd_T55 l1 x5_1).f1.f2).length c351_3,.slice A351_4 ((rd_T55 l1 x5_1).f1.f3).length c351_4]] ?_
        with_reducible refine (laws_eqKept.calls k1 ((rd_T55 l0 x5_1).f0) ((rd_T55 l0 x5_1).f1.f0) ((rd_T55 l0 x5_1).f1.f1) _ _ ((rd_T55 l0 x5_1).f1.f2) _ _ ((rd_T55 l0 x5_1).f1.f3) ((rd_T55 l1 x5_1).f0) ((rd_T55 l1 x5_1).f1.f0) ((rd_T55 l1 x5_1).f1.f1) _ _ ((rd_T55 l1 x5_1).f1.f2) _ _ ((rd_T55 l1 x5_1).f1.f3) true _ ?side1 ?side2 ?side3 ?side4 ?side5 ?side6 ?side7 ?side8 A7.out).mono ?_
        (case side1 => exact Up.Cx HR350_3 HB)
        (case side2 => exact HC350_3.out)
        (case side3 => exact Up.Cx HR350_4 HB)
        (case side4 => exact HC350_4.out)
        (case side5 => exact Up.Cx HR351_3 HB)
        (case side6 => exact HC351_3.out)
        (case side7 => exact Up.Cx HR351_4 HB)
        (case side8 => exact HC351_4.out)
        rintro e w10 ⟨rfl,hb⟩
        refine ⟨_,rfl,?_⟩
        have n0_:=Up.BB HB hb
        clear HB
        have HB:=n0_
        clear n0_
        (try clear hb)
        (try clear hb2)
        (try clear hk)
        (try clear hi)
        refine hK.out _ _ ⟨(Up.hd HB hw350_0),(Up.hd HB hw350_1),(Up.hd HB hw350_2),(Up.hd HB hw350_3),(Up.hd HB hw350_4),(Up.hd HB hw351_0),(Up.hd HB hw351_1),(Up.hd HB hw351_2),(Up.hd HB hw351_3),(Up.hd HB hw351_4)⟩ (fun hHeld => ?_)
        clear hK K
        refine Up.nm 25 ?_
        refine Up.pu 9 (some 26) HT_ ?_
        refine done_ (done_of HT_.out (by kernel_rfl)) ?_
        try go_wp2
        go_roundg k1
        case measure => have:=HK1.out;omega
        case rel => exact ⟨(wrap64 (x5_1 + 1)),(by first | rfl | (simp;done) | (simp [*];done)),H',⟨by have:=HK1.out;omega⟩,⟨Up.Bup HB⟩⟩
       ·replace c8:=Bool.eq_false_iff.mpr c8
        subst c8
        have H1 : (some false) = some r:=by rw [if_neg (show ¬ (false = true) by decide)] at H;exact H
        clear H
        have H:=H1
        clear H1
        obtain rfl:=Option.some.inj H
        try go_wp2
        have n0_:=Aside0.mk (below_drew1 HB.out)
        clear HB
        have HB:=n0_
        clear n0_
        have p350 : 0 ≤ (x5_1 : Int):=Up.od
        have q350 : x5_1 < (l0.length : Int):=Up.od
        obtain ⟨ad350,A350_3,c350_3,A350_4,c350_4,e350,hx350_0,hx350_1,hx350_2,hx350_3,hx350_4,hl350_3,hi350_3,hl350_4,hi350_4⟩:=at_T55 HR0.out x5_1 p350 q350
        have hw350_4:=hx350_4
        have hw350_3:=hx350_3
        have hw350_2:=hx350_2
        have hw350_1:=hx350_1
        have hw350_0:=hx350_0
        cases e350
        replace hx350_0:=Up.hc HB hx350_0
        replace hx350_1:=Up.hc HB hx350_1
        replace hx350_2:=Up.hc HB hx350_2
        replace hx350_3:=Up.hc HB hx350_3
        replace hx350_4:=Up.hc HB hx350_4
        have HR350_3:=Aside0.mk hi350_3
        have HC350_3:=Aside0.mk hl350_3
        clear hi350_3 hl350_3
        have HR350_4:=Aside0.mk hi350_4
        have HC350_4:=Aside0.mk hl350_4
        clear hi350_4 hl350_4
        replace p350:=eq_true p350
        replace q350:=eq_true q350
        have p351 : 0 ≤ (x5_1 : Int):=Up.od
        have q351 : x5_1 < (l1.length : Int):=Up.od
        obtain ⟨ad351,A351_3,c351_3,A351_4,c351_4,e351,hx351_0,hx351_1,hx351_2,hx351_3,hx351_4,hl351_3,hi351_3,hl351_4,hi351_4⟩:=at_T55 HR1.out x5_1 p351 q351
        have hw351_4:=hx351_4
        have hw351_3:=hx351_3
        have hw351_2:=hx351_2
        have hw351_1:=hx351_1
        have hw351_0:=hx351_0
        cases e351
        replace hx351_0:=Up.hc HB hx351_0
        replace hx351_1:=Up.hc HB hx351_1
        replace hx351_2:=Up.hc HB hx351_2
        replace hx351_3:=Up.hc HB hx351_3
        replace hx351_4:=Up.hc HB hx351_4
        have HR351_3:=Aside0.mk hi351_3
        have HC351_3:=Aside0.mk hl351_3
        clear hi351_3 hl351_3
        have HR351_4:=Aside0.mk hi351_4
        have HC351_4:=Aside0.mk hl351_4
        clear hi351_4 hl351_4
        replace p351:=eq_true p351
        replace q351:=eq_true q351
        refine start_ (n:=10) (S:=fun w' => w'.cell? (ad350.add ((x5_1).toNat * 5)) = some (.int .i64 ((rd_T55 l0 x5_1).f0)) ∧ w'.cell? ⟨(ad350.add ((x5_1).toNat * 5)).block,(ad350.add ((x5_1).toNat * 5)).off + 1,none⟩ = some (.string ((rd_T55 l0 x5_1).f1.f0)) ∧ w'.cell? ⟨(ad350.add ((x5_1).toNat * 5)).block,(ad350.add ((x5_1).toNat * 5)).off + 2,none⟩ = some (.int .i64 ((rd_T55 l0 x5_1).f1.f1)) ∧ w'.cell? ⟨(ad350.add ((x5_1).toNat * 5)).block,(ad350.add ((x5_1).toNat * 5)).off + 3,none⟩ = some (.slice A350_3 ((rd_T55 l0 x5_1).f1.f2).length c350_3) ∧ w'.cell? ⟨(ad350.add ((x5_1).toNat * 5)).block,(ad350.add ((x5_1).toNat * 5)).off + 4,none⟩ = some (.slice A350_4 ((rd_T55 l0 x5_1).f1.f3).length c350_4) ∧ w'.cell? (ad351.add ((x5_1).toNat * 5)) = some (.int .i64 ((rd_T55 l1 x5_1).f0)) ∧ w'.cell? ⟨(ad351.add ((x5_1).toNat * 5)).block,(ad351.add ((x5_1).toNat * 5)).off + 1,none⟩ = some (.string ((rd_T55 l1 x5_1).f1.f0)) ∧ w'.cell? ⟨(ad351.add ((x5_1).toNat * 5)).block,(ad351.add ((x5_1).toNat * 5)).off + 2,none⟩ = some (.int .i64 ((rd_T55 l1 x5_1).f1.f1)) ∧ w'.cell? ⟨(ad351.add ((x5_1).toNat * 5)).block,(ad351.add ((x5_1).toNat * 5)).off + 3,none⟩ = some (.slice A351_3 ((rd_T55 l1 x5_1).f1.f2).length c351_3) ∧ w'.cell? ⟨(ad351.add ((x5_1).toNat * 5)).block,(ad351.add ((x5_1).toNat * 5)).off + 4,none⟩ = some (.slice A351_4 ((rd_T55 l1 x5_1).f1.f3).length c351_4)) (ds:=[]) #[false,false,false,false,false,false,false,false,false,false] (by kernel_rfl) rfl rfl ⟨(Up.hd HB hw350_0),(Up.hd HB hw350_1),(Up.hd HB hw350_2),(Up.hd HB hw350_3),(Up.hd HB hw350_4),(Up.hd HB hw351_0),(Up.hd HB hw351_1),(Up.hd HB hw351_2),(Up.hd HB hw351_3),(Up.hd HB hw351_4)⟩ (fun hHeld => ?_);refine with_tabW laws_eqKeptS.tab6 laws_eqKeptS.bits6 (fun HT_ HW_ => ?_)
        generalize wr.drew = w11 at HB HR350_3 HR350_4 HR351_3 HR351_4 hx350_0 hx350_1 hx350_2 hx350_3 hx350_4 hx351_0 hx351_1 hx351_2 hx351_3 hx351_4 hHeld ⊢
        refine Up.pu 0 (some 17) HT_ ?_
        refine Up.pu 1 (some 18) HT_ ?_
        refine Up.pu 2 (some 19) HT_ ?_
        refine Up.pu 4 (some 21) HT_ ?_
        refine Up.pu 5 (some 22) HT_ ?_
        refine Up.pu 6 (some 23) HT_ ?_
        refine Up.tk 3 (some 20) HT_ HW_ hHeld ?_ (hy:=by rintro w' ⟨s0,s1,s2,s3,s4,s5,s6,s7,s8,s9⟩;go_simp;with_reducible rfl)
        refine Up.tk 7 (some 24) HT_ HW_ hHeld ?_ (hy:=by rintro w' ⟨s0,s1,s2,s3,s4,s5,s6,s7,s8,s9⟩;go_simp;with_reducible rfl)
        refine Up.on 8 (some 25) HT_ (fun K hK => ?_)
        refine Up.go Try.func75 #[.agg #[.int .i64 ((rd_T55 l0 x5_1).f0),.string ((rd_T55 l0 x5_1).f1.f0),.int .i64 ((rd_T55 l0 x5_1).f1.f1),.slice A350_3 ((rd_T55 l0 x5_1).f1.f2).length c350_3,.slice A350_4 ((rd_T55 l0 x5_1).f1.f3).length c350_4],.agg #[.int .i64 ((rd_T55 l1 x5_1).f0),.string ((rd_T55 l1 x5_1).f1.f0),.int .i64 ((rd_T55 l1 x5_1).f1.f1),.slice A351_3 ((rd_T55 l1 x5_1).f1.f2).length c351_3,.slice A351_4 ((rd_T55 l1 x5_1).f1.f3).length c351_4]] ?_
        with_reducible refine (laws_eqKept.calls k1 ((rd_T55 l0 x5_1).f0) ((rd_T55 l0 x5_1).f1.f0) ((rd_T55 l0 x5_1).f1.f1) _ _ ((rd_T55 l0 x5_1).f1.f2) _ _ ((rd_T55 l0 x5_1).f1.f3) ((rd_T55 l1 x5_1).f0) ((rd_T55 l1 x5_1).f1.f0) ((rd_T55 l1 x5_1).f1.f1) _ _ ((rd_T55 l1 x5_1).f1.f2) _ _ ((rd_T55 l1 x5_1).f1.f3) false _ ?side1 ?side2 ?side3 ?side4 ?side5 ?side6 ?side7 ?side8 A7.out).mono ?_
        (case side1 => exact Up.Cx HR350_3 HB)
        (case side2 => exact HC350_3.out)
        (case side3 => exact Up.Cx HR350_4 HB)
        (case side4 => exact HC350_4.out)
        (case side5 => exact Up.Cx HR351_3 HB)
        (case side6 => exact HC351_3.out)
        (case side7 => exact Up.Cx HR351_4 HB)
        (case side8 => exact HC351_4.out)
        rintro e w12 ⟨rfl,hb⟩
        refine ⟨_,rfl,?_⟩
        have n0_:=Up.BB HB hb
        clear HB
        have HB:=n0_
        clear n0_
        (try clear hb)
        (try clear hb2)
        (try clear hk)
        (try clear hi)
        refine hK.out _ _ ⟨(Up.hd HB hw350_0),(Up.hd HB hw350_1),(Up.hd HB hw350_2),(Up.hd HB hw350_3),(Up.hd HB hw350_4),(Up.hd HB hw351_0),(Up.hd HB hw351_1),(Up.hd HB hw351_2),(Up.hd HB hw351_3),(Up.hd HB hw351_4)⟩ (fun hHeld => ?_)
        clear hK K
        refine Up.nm 25 ?_
        refine Up.pu 9 (some 26) HT_ ?_
        refine done_ (done_of HT_.out (by kernel_rfl)) ?_
        try go_wp2
        go_ret
        exact Up.e1 (Up.Bup HB)
      ·rw [if_neg c6] at H
       exact absurd H (by simp)
     ·rw [if_neg c5] at H
      exact absurd H (by simp)
    ·rw [if_neg c4] at H
     have c4b0 : decide (x5_1 < (l0.length : Int)) = false:=decide_eq_false c4
     clear c4
     obtain rfl:=Option.some.inj H
     go_wp2
     go_ret
     exact Up.e1 (Up.Bup HB)
 ·rw [if_neg c3] at H
  have c3b0 : ((l0.length : Int) == (l1.length : Int)) = false:=beq_eq_false_iff_ne.mpr c3
  have c3b1 : ((l0.length : Int) != (l1.length : Int)) = true:=bne_iff_ne.mpr c3
  have c3b2 : (l0.length == l1.length) = false:=by first | simpa using c3 | (simp at c3 ⊢;omega)
  obtain rfl:=Option.some.inj H
  go_enter Try.func32,Try.ntmps32
  go_wp2
  go_ret
  exact Up.e1 (Up.Bup HB)

/-! ### laws_FnExactVaultsOk: function 9 -/
def laws_FnExactVaultsOk.f (k : Nat) (l0 : List (List (S124))) (l1 : List (S96)) : Option (Bool):=(laws_szRecordSS.f k l0 1048576).bind fun t353 => (if t353 < 0 then (some true) else ((laws_szKeptS.f k l1 t353).bind fun t354 => (if t354 < 0 then (some true) else ((laws_toRecordSS.f k l0).bind fun t355 => ((laws_toKeptS.f k l1).bind fun t358 => ((spec_VaultsOk.f k t355 t358).bind fun t361 => ((laws_toRecordSS.f k l0).bind fun t362 => ((laws_toKeptS.f k l1).bind fun t365 => ((impl_VaultsOk.f k t362 t365).bind fun t368 => (if (t368 != t361) = true then (some false) else ((laws_toRecordSS.f k l0).bind fun t369 => ((laws_eqRecordSS.f k t362 t369).bind fun t372 => (if t372 = true then ((laws_toKeptS.f k l1).bind fun t373 => ((laws_eqKeptS.f k t365 t373).bind fun t376 => (if t376 = true then (some true) else (some false)))) else (some false))))))))))))))
theorem laws_FnExactVaultsOk.mono : ∀ a0 a1 k,LeO (laws_FnExactVaultsOk.f k a0 a1) (laws_FnExactVaultsOk.f (k + 1) a0 a1):=by
 intro a0 a1 k
 unfold laws_FnExactVaultsOk.f
 repeat' first
   | (with_reducible exact impl_VaultsOk.mono _ _ _)
   | (with_reducible exact laws_eqKeptS.mono _ _ _)
   | (with_reducible exact laws_eqRecordSS.mono _ _ _)
   | (with_reducible exact laws_szKeptS.mono _ _ _)
   | (with_reducible exact laws_szRecordSS.mono _ _ _)
   | (with_reducible exact laws_toKeptS.mono _ _)
   | (with_reducible exact laws_toRecordSS.mono _ _)
   | (with_reducible exact spec_VaultsOk.mono _ _ _)
   | (with_reducible exact LeO.refl _)
   | (with_reducible exact LeO.none _)
   | (with_reducible refine LeO.ite ?_ ?_)
   | (with_reducible refine LeO.bind ?_ (fun _ => ?_))
   | exact impl_VaultsOk.mono _ _ _
   | exact laws_eqKeptS.mono _ _ _
   | exact laws_eqRecordSS.mono _ _ _
   | exact laws_szKeptS.mono _ _ _
   | exact laws_szRecordSS.mono _ _ _
   | exact laws_toKeptS.mono _ _
   | exact laws_toRecordSS.mono _ _
   | exact spec_VaultsOk.mono _ _ _
   | exact LeO.none _
   | refine LeO.ite ?_ ?_
   | refine LeO.bind ?_ (fun _ => ?_)
set_option maxHeartbeats 8000000 in
set_option maxRecDepth 100000 in
theorem laws_FnExactVaultsOk.calls (k : Nat) (A0 : Option Addr) (c0 : Nat) (l0 : List (List (S124))) (A1 : Option Addr) (c1 : Nat) (l1 : List (S96)) (r : Bool) (w : World) (hr0 : Kd.C (Kd.slice 124 k124) w A0 l0.length l0) (hc0 : l0.length ≤ c0) (hr1 : Kd.C k96 w A1 l1.length l1) (hc1 : l1.length ≤ c1) (h : laws_FnExactVaultsOk.f k l0 l1 = some r) :
  Calls Try.prog 9 #[.slice A0 l0.length c0,.slice A1 l1.length c1] w fun e w' => e = .returned (.bool r) ∧ Below w.heap.size w w':=by
 have HR0:=Aside0.mk hr0
 have HC0:=Aside0.mk hc0
 clear hr0 hc0
 have HR1:=Aside0.mk hr1
 have HC1:=Aside0.mk hc1
 clear hr1 hc1
 have HB:=Aside0.mk (Below.refl w.heap.size w)
 have H : ((laws_szRecordSS.f k l0 1048576).bind fun t353 => (if t353 < 0 then (some true) else ((laws_szKeptS.f k l1 t353).bind fun t354 => (if t354 < 0 then (some true) else ((laws_toRecordSS.f k l0).bind fun t355 => ((laws_toKeptS.f k l1).bind fun t358 => ((spec_VaultsOk.f k t355 t358).bind fun t361 => ((laws_toRecordSS.f k l0).bind fun t362 => ((laws_toKeptS.f k l1).bind fun t365 => ((impl_VaultsOk.f k t362 t365).bind fun t368 => (if (t368 != t361) = true then (some false) else ((laws_toRecordSS.f k l0).bind fun t369 => ((laws_eqRecordSS.f k t362 t369).bind fun t372 => (if t372 = true then ((laws_toKeptS.f k l1).bind fun t373 => ((laws_eqKeptS.f k t365 t373).bind fun t376 => (if t376 = true then (some true) else (some false)))) else (some false))))))))))))))) = some r:=h
 clear h
 replace H:=Option.bind_eq_some_iff.mp H
 obtain ⟨t353,A30,H⟩:=H
 replace H : (if t353 < 0 then (some true) else ((laws_szKeptS.f k l1 t353).bind fun t354 => (if t354 < 0 then (some true) else ((laws_toRecordSS.f k l0).bind fun t355 => ((laws_toKeptS.f k l1).bind fun t358 => ((spec_VaultsOk.f k t355 t358).bind fun t361 => ((laws_toRecordSS.f k l0).bind fun t362 => ((laws_toKeptS.f k l1).bind fun t365 => ((impl_VaultsOk.f k t362 t365).bind fun t368 => (if (t368 != t361) = true then (some false) else ((laws_toRecordSS.f k l0).bind fun t369 => ((laws_eqRecordSS.f k t362 t369).bind fun t372 => (if t372 = true then ((laws_toKeptS.f k l1).bind fun t373 => ((laws_eqKeptS.f k t365 t373).bind fun t376 => (if t376 = true then (some true) else (some false)))) else (some false)))))))))))))) = some r:=H
 have A3:=Aside0.mk A30
 clear A30
 by_cases c4 : t353 < 0
 ·rw [if_pos c4] at H
  have c4b0 : decide (t353 < 0) = true:=decide_eq_true c4
  clear c4
  obtain rfl:=Option.some.inj H
  go_enter Try.func9,Try.ntmps9
  go_wp2_with (first | ((with_reducible refine gate_callee (f:=18) rfl ?_);refine Up.gl (some 12) Try.func18 #[.slice A0 l0.length c0,.int .i64 1048576] ?_;(with_reducible refine (laws_szRecordSS.calls k _ _ l0 1048576 t353 _ ?side1 ?side2 A3.out).mono ?_);(case side1 => repeat (first | exact HR0.out | (with_reducible refine Kd.C_alloc ?_ _) | (with_reducible refine Kd.C_drewN ?_ _) | (with_reducible refine Kd.C_drew ?_)));(case side2 => exact HC0.out);rintro e w5 ⟨rfl,hb⟩;refine ⟨_,rfl,?_⟩;have n0_:=Up.BB HB hb;clear HB;have HB:=n0_;clear n0_;(try clear hb);(try clear hb2);(try clear hk);(try clear hi)))
  go_ret
  exact Up.e1 (Up.Bup HB)
 ·rw [if_neg c4] at H
  have c4b0 : decide (t353 < 0) = false:=decide_eq_false c4
  clear c4
  replace H:=Option.bind_eq_some_iff.mp H
  obtain ⟨t354,A60,H⟩:=H
  replace H : (if t354 < 0 then (some true) else ((laws_toRecordSS.f k l0).bind fun t355 => ((laws_toKeptS.f k l1).bind fun t358 => ((spec_VaultsOk.f k t355 t358).bind fun t361 => ((laws_toRecordSS.f k l0).bind fun t362 => ((laws_toKeptS.f k l1).bind fun t365 => ((impl_VaultsOk.f k t362 t365).bind fun t368 => (if (t368 != t361) = true then (some false) else ((laws_toRecordSS.f k l0).bind fun t369 => ((laws_eqRecordSS.f k t362 t369).bind fun t372 => (if t372 = true then ((laws_toKeptS.f k l1).bind fun t373 => ((laws_eqKeptS.f k t365 t373).bind fun t376 => (if t376 = true then (some true) else (some false)))) else (some false)))))))))))) = some r:=H
  have A6:=Aside0.mk A60
  clear A60
  by_cases c7 : t354 < 0
  ·rw [if_pos c7] at H
   have c7b0 : decide (t354 < 0) = true:=decide_eq_true c7
   clear c7
   obtain rfl:=Option.some.inj H
   go_enter Try.func9,Try.ntmps9
   go_wp2_with (first | ((with_reducible refine gate_callee (f:=18) rfl ?_);refine Up.gl (some 12) Try.func18 #[.slice A0 l0.length c0,.int .i64 1048576] ?_;(with_reducible refine (laws_szRecordSS.calls k _ _ l0 1048576 t353 _ ?side1 ?side2 A3.out).mono ?_);(case side1 => repeat (first | exact HR0.out | (with_reducible refine Kd.C_alloc ?_ _) | (with_reducible refine Kd.C_drewN ?_ _) | (with_reducible refine Kd.C_drew ?_)));(case side2 => exact HC0.out);rintro e w8 ⟨rfl,hb⟩;refine ⟨_,rfl,?_⟩;have n0_:=Up.BB HB hb;clear HB;have HB:=n0_;clear n0_;(try clear hb);(try clear hb2);(try clear hk);(try clear hi)) | ((with_reducible refine gate_callee (f:=30) rfl ?_);refine Up.gl (some 17) Try.func30 #[.slice A1 l1.length c1,.int .i64 t353] ?_;(with_reducible refine (laws_szKeptS.calls k _ _ l1 t353 t354 _ ?side1 ?side2 A6.out).mono ?_);(case side1 => exact Up.Cx HR1 HB);(case side2 => exact HC1.out);rintro e w9 ⟨rfl,hb⟩;refine ⟨_,rfl,?_⟩;have n0_:=Up.BB HB hb;clear HB;have HB:=n0_;clear n0_;(try clear hb);(try clear hb2);(try clear hk);(try clear hi)))
   go_ret
   exact Up.e1 (Up.Bup HB)
  ·rw [if_neg c7] at H
   have c7b0 : decide (t354 < 0) = false:=decide_eq_false c7
   clear c7
   replace H:=Option.bind_eq_some_iff.mp H
   obtain ⟨t355,A100,H⟩:=H
   replace H : ((laws_toKeptS.f k l1).bind fun t358 => ((spec_VaultsOk.f k t355 t358).bind fun t361 => ((laws_toRecordSS.f k l0).bind fun t362 => ((laws_toKeptS.f k l1).bind fun t365 => ((impl_VaultsOk.f k t362 t365).bind fun t368 => (if (t368 != t361) = true then (some false) else ((laws_toRecordSS.f k l0).bind fun t369 => ((laws_eqRecordSS.f k t362 t369).bind fun t372 => (if t372 = true then ((laws_toKeptS.f k l1).bind fun t373 => ((laws_eqKeptS.f k t365 t373).bind fun t376 => (if t376 = true then (some true) else (some false)))) else (some false)))))))))) = some r:=H
   have A10:=Aside0.mk A100
   clear A100
   replace H:=Option.bind_eq_some_iff.mp H
   obtain ⟨t358,A110,H⟩:=H
   replace H : ((spec_VaultsOk.f k t355 t358).bind fun t361 => ((laws_toRecordSS.f k l0).bind fun t362 => ((laws_toKeptS.f k l1).bind fun t365 => ((impl_VaultsOk.f k t362 t365).bind fun t368 => (if (t368 != t361) = true then (some false) else ((laws_toRecordSS.f k l0).bind fun t369 => ((laws_eqRecordSS.f k t362 t369).bind fun t372 => (if t372 = true then ((laws_toKeptS.f k l1).bind fun t373 => ((laws_eqKeptS.f k t365 t373).bind fun t376 => (if t376 = true then (some true) else (some false)))) else (some false))))))))) = some r:=H
   have A11:=Aside0.mk A110
   clear A110
   replace H:=Option.bind_eq_some_iff.mp H
   obtain ⟨t361,A120,H⟩:=H
   replace H : ((laws_toRecordSS.f k l0).bind fun t362 => ((laws_toKeptS.f k l1).bind fun t365 => ((impl_VaultsOk.f k t362 t365).bind fun t368 => (if (t368 != t361) = true then (some false) else ((laws_toRecordSS.f k l0).bind fun t369 => ((laws_eqRecordSS.f k t362 t369).bind fun t372 => (if t372 = true then ((laws_toKeptS.f k l1).bind fun t373 => ((laws_eqKeptS.f k t365 t373).bind fun t376 => (if t376 = true then (some true) else (some false)))) else (some false)))))))) = some r:=H
   have A12:=Aside0.mk A120
   clear A120
   replace H:=Option.bind_eq_some_iff.mp H
   obtain ⟨t362,A130,H⟩:=H
   replace H : ((laws_toKeptS.f k l1).bind fun t365 => ((impl_VaultsOk.f k t362 t365).bind fun t368 => (if (t368 != t361) = true then (some false) else ((laws_toRecordSS.f k l0).bind fun t369 => ((laws_eqRecordSS.f k t362 t369).bind fun t372 => (if t372 = true then ((laws_toKeptS.f k l1).bind fun t373 => ((laws_eqKeptS.f k t365 t373).bind fun t376 => (if t376 = true then (some true) else (some false)))) else (some false))))))) = some r:=H
   have A13:=Aside0.mk A130
   clear A130
   replace H:=Option.bind_eq_some_iff.mp H
   obtain ⟨t365,A140,H⟩:=H
   replace H : ((impl_VaultsOk.f k t362 t365).bind fun t368 => (if (t368 != t361) = true then (some false) else ((laws_toRecordSS.f k l0).bind fun t369 => ((laws_eqRecordSS.f k t362 t369).bind fun t372 => (if t372 = true then ((laws_toKeptS.f k l1).bind fun t373 => ((laws_eqKeptS.f k t365 t373).bind fun t376 => (if t376 = true then (some true) else (some false)))) else (some false)))))) = some r:=H
   have A14:=Aside0.mk A140
   clear A140
   replace H:=Option.bind_eq_some_iff.mp H
   obtain ⟨t368,A150,H⟩:=H
   replace H : (if (t368 != t361) = true then (some false) else ((laws_toRecordSS.f k l0).bind fun t369 => ((laws_eqRecordSS.f k t362 t369).bind fun t372 => (if t372 = true then ((laws_toKeptS.f k l1).bind fun t373 => ((laws_eqKeptS.f k t365 t373).bind fun t376 => (if t376 = true then (some true) else (some false)))) else (some false))))) = some r:=H
   have A15:=Aside0.mk A150
   clear A150
   by_cases c16 : (t368 != t361) = true
   ·rw [if_pos c16] at H
    have c16b0 : (t368 != t361) = true:=c16
    (try (have c16b1 : decide (t368 = t361) = false:=by simpa using c16))
    (try (have c16b2 : (t368 == t361) = false:=by simpa using c16))
    (try (have c16b3 : ¬ (t368 = t361):=by simpa using c16))
    clear c16
    obtain rfl:=Option.some.inj H
    go_enter Try.func9,Try.ntmps9
    go_wp2_with (first | ((with_reducible refine gate_callee (f:=18) rfl ?_);refine Up.gl (some 12) Try.func18 #[.slice A0 l0.length c0,.int .i64 1048576] ?_;(with_reducible refine (laws_szRecordSS.calls k _ _ l0 1048576 t353 _ ?side1 ?side2 A3.out).mono ?_);(case side1 => repeat (first | exact HR0.out | (with_reducible refine Kd.C_alloc ?_ _) | (with_reducible refine Kd.C_drewN ?_ _) | (with_reducible refine Kd.C_drew ?_)));(case side2 => exact HC0.out);rintro e w17 ⟨rfl,hb⟩;refine ⟨_,rfl,?_⟩;have n0_:=Up.BB HB hb;clear HB;have HB:=n0_;clear n0_;(try clear hb);(try clear hb2);(try clear hk);(try clear hi)) | ((with_reducible refine gate_callee (f:=30) rfl ?_);refine Up.gl (some 17) Try.func30 #[.slice A1 l1.length c1,.int .i64 t353] ?_;(with_reducible refine (laws_szKeptS.calls k _ _ l1 t353 t354 _ ?side1 ?side2 A6.out).mono ?_);(case side1 => exact Up.Cx HR1 HB);(case side2 => exact HC1.out);rintro e w18 ⟨rfl,hb⟩;refine ⟨_,rfl,?_⟩;have n0_:=Up.BB HB hb;clear HB;have HB:=n0_;clear n0_;(try clear hb);(try clear hb2);(try clear hk);(try clear hi)) | ((with_reducible refine gate_callee (f:=21) rfl ?_);refine Up.gl (some 21) Try.func21 #[.slice A0 l0.length c0] ?_;(with_reducible refine (laws_toRecordSS.calls k _ _ l0 t355 _ ?side1 ?side2 A10.out).mono ?_);(case side1 => exact Up.Cx HR0 HB);(case side2 => exact HC0.out);rintro e w19 ⟨v356,rfl,ho0,hb⟩;refine ⟨_,rfl,?_⟩;have n0_:=Aside0.mk (Kd.R_lower ho0 (below_size (Up.Bup HB)));have n1_:=Up.BB HB hb;clear HB;have HO357:=n0_;have HB:=n1_;clear n0_ n1_;(try clear hb);(try clear hb2);(try clear hk);(try clear hi);(try clear ho0)) | ((with_reducible refine gate_callee (f:=31) rfl ?_);refine Up.gl (some 23) Try.func31 #[.slice A1 l1.length c1] ?_;(with_reducible refine (laws_toKeptS.calls k _ _ l1 t358 _ ?side1 ?side2 A11.out).mono ?_);(case side1 => exact Up.Cx HR1 HB);(case side2 => exact HC1.out);rintro e w20 ⟨v359,rfl,ho0,hb⟩;refine ⟨_,rfl,?_⟩;have n0_:=Up.RB HO357 hb;have n1_:=Aside0.mk (Kd.R_lower ho0 (below_size (Up.Bup HB)));have n2_:=Up.BB HB hb;clear HO357 HB;have HO357:=n0_;have HO360:=n1_;have HB:=n2_;clear n0_ n1_ n2_;(try clear hb);(try clear hb2);(try clear hk);(try clear hi);(try clear ho0);obtain ⟨Ao21,co21,eo21⟩:=Kd.R_slice HO357.out;subst eo21;obtain ⟨Ao22,co22,eo22⟩:=Kd.R_slice HO360.out;subst eo22) | ((with_reducible refine gate_callee (f:=27) rfl ?_);refine Up.gl (some 24) Try.func27 #[.slice Ao21 t355.length co21,.slice Ao22 t358.length co22] ?_;(with_reducible refine (spec_VaultsOk.calls k _ _ t355 _ _ t358 t361 _ ?side1 ?side2 ?side3 ?side4 A12.out).mono ?_);(case side1 => repeat (first | exact (Kd.R_reads' HO357.out).2.2 | (with_reducible refine Kd.C_alloc ?_ _) | (with_reducible refine Kd.C_drewN ?_ _) | (with_reducible refine Kd.C_drew ?_)));(case side2 => exact (Kd.R_reads' HO357.out).2.1);(case side3 => repeat (first | exact (Kd.R_reads' HO360.out).2.2 | (with_reducible refine Kd.C_alloc ?_ _) | (with_reducible refine Kd.C_drewN ?_ _) | (with_reducible refine Kd.C_drew ?_)));(case side4 => exact (Kd.R_reads' HO360.out).2.1);rintro e w23 ⟨rfl,hb⟩;refine ⟨_,rfl,?_⟩;have n0_:=Up.RB HO357 hb;have n1_:=Up.RB HO360 hb;have n2_:=Up.BB HB hb;clear HO357 HO360 HB;have HO357:=n0_;have HO360:=n1_;have HB:=n2_;clear n0_ n1_ n2_;(try clear hb);(try clear hb2);(try clear hk);(try clear hi)) | ((with_reducible refine gate_callee (f:=21) rfl ?_);refine Up.gl (some 26) Try.func21 #[.slice A0 l0.length c0] ?_;(with_reducible refine (laws_toRecordSS.calls k _ _ l0 t362 _ ?side1 ?side2 A13.out).mono ?_);(case side1 => exact Up.Cx HR0 HB);(case side2 => exact HC0.out);rintro e w24 ⟨v363,rfl,ho0,hb⟩;refine ⟨_,rfl,?_⟩;have n0_:=Aside0.mk (Kd.R_elder' (Up.Rup HO357) (Kd.R_base ho0) hb);have n1_:=Up.RB HO360 hb;have n2_:=Aside0.mk (Kd.R_lower (Kd.R_new' ho0 (Kd.R_lt (Up.Rup HO357))) (below_size (Up.Bup HB)));have n3_:=Up.BB HB hb;clear HO357 HO360 HB;have HO357:=n0_;have HO360:=n1_;have HO364:=n2_;have HB:=n3_;clear n0_ n1_ n2_ n3_;(try clear hb);(try clear hb2);(try clear hk);(try clear hi);(try clear ho0)) | ((with_reducible refine gate_callee (f:=31) rfl ?_);refine Up.gl (some 28) Try.func31 #[.slice A1 l1.length c1] ?_;(with_reducible refine (laws_toKeptS.calls k _ _ l1 t365 _ ?side1 ?side2 A14.out).mono ?_);(case side1 => exact Up.Cx HR1 HB);(case side2 => exact HC1.out);rintro e w25 ⟨v366,rfl,ho0,hb⟩;refine ⟨_,rfl,?_⟩;have n0_:=Up.RB HO357 hb;have n1_:=Aside0.mk (Kd.R_elder' (Up.Rup HO360) (Kd.R_base ho0) hb);have n2_:=Up.RB HO364 hb;have n3_:=Aside0.mk (Kd.R_lower (Kd.R_new' ho0 (Kd.R_lt (Up.Rup HO360))) (below_size (Up.Bup HB)));have n4_:=Up.BB HB hb;clear HO357 HO360 HO364 HB;have HO357:=n0_;have HO360:=n1_;have HO364:=n2_;have HO367:=n3_;have HB:=n4_;clear n0_ n1_ n2_ n3_ n4_;(try clear hb);(try clear hb2);(try clear hk);(try clear hi);(try clear ho0);obtain ⟨Ao26,co26,eo26⟩:=Kd.R_slice HO364.out;subst eo26;obtain ⟨Ao27,co27,eo27⟩:=Kd.R_slice HO367.out;subst eo27) | ((with_reducible refine gate_callee (f:=26) rfl ?_);refine Up.gl (some 31) Try.func26 #[.slice Ao26 t362.length co26,.slice Ao27 t365.length co27] ?_;(with_reducible refine (impl_VaultsOk.calls k _ _ t362 _ _ t365 t368 _ ?side1 ?side2 ?side3 ?side4 A15.out).mono ?_);(case side1 => repeat (first | exact (Kd.R_reads' HO364.out).2.2 | (with_reducible refine Kd.C_alloc ?_ _) | (with_reducible refine Kd.C_drewN ?_ _) | (with_reducible refine Kd.C_drew ?_)));(case side2 => exact (Kd.R_reads' HO364.out).2.1);(case side3 => repeat (first | exact (Kd.R_reads' HO367.out).2.2 | (with_reducible refine Kd.C_alloc ?_ _) | (with_reducible refine Kd.C_drewN ?_ _) | (with_reducible refine Kd.C_drew ?_)));(case side4 => exact (Kd.R_reads' HO367.out).2.1);rintro e w28 ⟨rfl,hb⟩;refine ⟨_,rfl,?_⟩;have n0_:=Up.RB HO357 hb;have n1_:=Up.RB HO360 hb;have n2_:=Up.RB HO364 hb;have n3_:=Up.RB HO367 hb;have n4_:=Up.BB HB hb;clear HO357 HO360 HO364 HO367 HB;have HO357:=n0_;have HO360:=n1_;have HO364:=n2_;have HO367:=n3_;have HB:=n4_;clear n0_ n1_ n2_ n3_ n4_;(try clear hb);(try clear hb2);(try clear hk);(try clear hi)))
    go_ret
    exact Up.e1 (Up.Bup HB)
   ·rw [if_neg c16] at H
    have c16b0 : (t368 != t361) = false:=by simpa using c16
    (try (have c16b1 : decide (t368 = t361) = true:=by simpa using c16))
    (try (have c16b2 : (t368 == t361) = true:=by simpa using c16))
    clear c16
    replace H:=Option.bind_eq_some_iff.mp H
    obtain ⟨t369,A290,H⟩:=H
    replace H : ((laws_eqRecordSS.f k t362 t369).bind fun t372 => (if t372 = true then ((laws_toKeptS.f k l1).bind fun t373 => ((laws_eqKeptS.f k t365 t373).bind fun t376 => (if t376 = true then (some true) else (some false)))) else (some false))) = some r:=H
    have A29:=Aside0.mk A290
    clear A290
    replace H:=Option.bind_eq_some_iff.mp H
    obtain ⟨t372,A300,H⟩:=H
    replace H : (if t372 = true then ((laws_toKeptS.f k l1).bind fun t373 => ((laws_eqKeptS.f k t365 t373).bind fun t376 => (if t376 = true then (some true) else (some false)))) else (some false)) = some r:=H
    have A30:=Aside0.mk A300
    clear A300
    by_cases c31 : t372 = true
    ·subst c31
     have H1 : ((laws_toKeptS.f k l1).bind fun t373 => ((laws_eqKeptS.f k t365 t373).bind fun t376 => (if t376 = true then (some true) else (some false)))) = some r:=by rw [if_pos rfl] at H;exact H
     clear H
     have H:=H1
     clear H1
     replace H:=Option.bind_eq_some_iff.mp H
     obtain ⟨t373,A320,H⟩:=H
     replace H : ((laws_eqKeptS.f k t365 t373).bind fun t376 => (if t376 = true then (some true) else (some false))) = some r:=H
     have A32:=Aside0.mk A320
     clear A320
     replace H:=Option.bind_eq_some_iff.mp H
     obtain ⟨t376,A330,H⟩:=H
     replace H : (if t376 = true then (some true) else (some false)) = some r:=H
     have A33:=Aside0.mk A330
     clear A330
     by_cases c34 : t376 = true
     ·subst c34
      have H1 : (some true) = some r:=by rw [if_pos rfl] at H;exact H
      clear H
      have H:=H1
      clear H1
      obtain rfl:=Option.some.inj H
      go_enter Try.func9,Try.ntmps9
      go_wp2_with (first | ((with_reducible refine gate_callee (f:=18) rfl ?_);refine Up.gl (some 12) Try.func18 #[.slice A0 l0.length c0,.int .i64 1048576] ?_;(with_reducible refine (laws_szRecordSS.calls k _ _ l0 1048576 t353 _ ?side1 ?side2 A3.out).mono ?_);(case side1 => repeat (first | exact HR0.out | (with_reducible refine Kd.C_alloc ?_ _) | (with_reducible refine Kd.C_drewN ?_ _) | (with_reducible refine Kd.C_drew ?_)));(case side2 => exact HC0.out);rintro e w35 ⟨rfl,hb⟩;refine ⟨_,rfl,?_⟩;have n0_:=Up.BB HB hb;clear HB;have HB:=n0_;clear n0_;(try clear hb);(try clear hb2);(try clear hk);(try clear hi)) | ((with_reducible refine gate_callee (f:=30) rfl ?_);refine Up.gl (some 17) Try.func30 #[.slice A1 l1.length c1,.int .i64 t353] ?_;(with_reducible refine (laws_szKeptS.calls k _ _ l1 t353 t354 _ ?side1 ?side2 A6.out).mono ?_);(case side1 => exact Up.Cx HR1 HB);(case side2 => exact HC1.out);rintro e w36 ⟨rfl,hb⟩;refine ⟨_,rfl,?_⟩;have n0_:=Up.BB HB hb;clear HB;have HB:=n0_;clear n0_;(try clear hb);(try clear hb2);(try clear hk);(try clear hi)) | ((with_reducible refine gate_callee (f:=21) rfl ?_);refine Up.gl (some 21) Try.func21 #[.slice A0 l0.length c0] ?_;(with_reducible refine (laws_toRecordSS.calls k _ _ l0 t355 _ ?side1 ?side2 A10.out).mono ?_);(case side1 => exact Up.Cx HR0 HB);(case side2 => exact HC0.out);rintro e w37 ⟨v356,rfl,ho0,hb⟩;refine ⟨_,rfl,?_⟩;have n0_:=Aside0.mk (Kd.R_lower ho0 (below_size (Up.Bup HB)));have n1_:=Up.BB HB hb;clear HB;have HO357:=n0_;have HB:=n1_;clear n0_ n1_;(try clear hb);(try clear hb2);(try clear hk);(try clear hi);(try clear ho0)) | ((with_reducible refine gate_callee (f:=31) rfl ?_);refine Up.gl (some 23) Try.func31 #[.slice A1 l1.length c1] ?_;(with_reducible refine (laws_toKeptS.calls k _ _ l1 t358 _ ?side1 ?side2 A11.out).mono ?_);(case side1 => exact Up.Cx HR1 HB);(case side2 => exact HC1.out);rintro e w38 ⟨v359,rfl,ho0,hb⟩;refine ⟨_,rfl,?_⟩;have n0_:=Up.RB HO357 hb;have n1_:=Aside0.mk (Kd.R_lower ho0 (below_size (Up.Bup HB)));have n2_:=Up.BB HB hb;clear HO357 HB;have HO357:=n0_;have HO360:=n1_;have HB:=n2_;clear n0_ n1_ n2_;(try clear hb);(try clear hb2);(try clear hk);(try clear hi);(try clear ho0);obtain ⟨Ao39,co39,eo39⟩:=Kd.R_slice HO357.out;subst eo39;obtain ⟨Ao40,co40,eo40⟩:=Kd.R_slice HO360.out;subst eo40) | ((with_reducible refine gate_callee (f:=27) rfl ?_);refine Up.gl (some 24) Try.func27 #[.slice Ao39 t355.length co39,.slice Ao40 t358.length co40] ?_;(with_reducible refine (spec_VaultsOk.calls k _ _ t355 _ _ t358 t361 _ ?side1 ?side2 ?side3 ?side4 A12.out).mono ?_);(case side1 => repeat (first | exact (Kd.R_reads' HO357.out).2.2 | (with_reducible refine Kd.C_alloc ?_ _) | (with_reducible refine Kd.C_drewN ?_ _) | (with_reducible refine Kd.C_drew ?_)));(case side2 => exact (Kd.R_reads' HO357.out).2.1);(case side3 => repeat (first | exact (Kd.R_reads' HO360.out).2.2 | (with_reducible refine Kd.C_alloc ?_ _) | (with_reducible refine Kd.C_drewN ?_ _) | (with_reducible refine Kd.C_drew ?_)));(case side4 => exact (Kd.R_reads' HO360.out).2.1);rintro e w41 ⟨rfl,hb⟩;refine ⟨_,rfl,?_⟩;have n0_:=Up.RB HO357 hb;have n1_:=Up.RB HO360 hb;have n2_:=Up.BB HB hb;clear HO357 HO360 HB;have HO357:=n0_;have HO360:=n1_;have HB:=n2_;clear n0_ n1_ n2_;(try clear hb);(try clear hb2);(try clear hk);(try clear hi)) | ((with_reducible refine gate_callee (f:=21) rfl ?_);refine Up.gl (some 26) Try.func21 #[.slice A0 l0.length c0] ?_;(with_reducible refine (laws_toRecordSS.calls k _ _ l0 t362 _ ?side1 ?side2 A13.out).mono ?_);(case side1 => exact Up.Cx HR0 HB);(case side2 => exact HC0.out);rintro e w42 ⟨v363,rfl,ho0,hb⟩;refine ⟨_,rfl,?_⟩;have n0_:=Aside0.mk (Kd.R_elder' (Up.Rup HO357) (Kd.R_base ho0) hb);have n1_:=Up.RB HO360 hb;have n2_:=Aside0.mk (Kd.R_lower (Kd.R_new' ho0 (Kd.R_lt (Up.Rup HO357))) (below_size (Up.Bup HB)));have n3_:=Up.BB HB hb;clear HO357 HO360 HB;have HO357:=n0_;have HO360:=n1_;have HO364:=n2_;have HB:=n3_;clear n0_ n1_ n2_ n3_;(try clear hb);(try clear hb2);(try clear hk);(try clear hi);(try clear ho0)) | ((with_reducible refine gate_callee (f:=31) rfl ?_);refine Up.gl (some 28) Try.func31 #[.slice A1 l1.length c1] ?_;(with_reducible refine (laws_toKeptS.calls k _ _ l1 t365 _ ?side1 ?side2 A14.out).mono ?_);(case side1 => exact Up.Cx HR1 HB);(case side2 => exact HC1.out);rintro e w43 ⟨v366,rfl,ho0,hb⟩;refine ⟨_,rfl,?_⟩;have n0_:=Up.RB HO357 hb;have n1_:=Aside0.mk (Kd.R_elder' (Up.Rup HO360) (Kd.R_base ho0) hb);have n2_:=Up.RB HO364 hb;have n3_:=Aside0.mk (Kd.R_lower (Kd.R_new' ho0 (Kd.R_lt (Up.Rup HO360))) (below_size (Up.Bup HB)));have n4_:=Up.BB HB hb;clear HO357 HO360 HO364 HB;have HO357:=n0_;have HO360:=n1_;have HO364:=n2_;have HO367:=n3_;have HB:=n4_;clear n0_ n1_ n2_ n3_ n4_;(try clear hb);(try clear hb2);(try clear hk);(try clear hi);(try clear ho0);obtain ⟨Ao44,co44,eo44⟩:=Kd.R_slice HO364.out;subst eo44;obtain ⟨Ao45,co45,eo45⟩:=Kd.R_slice HO367.out;subst eo45) | ((with_reducible refine gate_callee (f:=26) rfl ?_);refine Up.gl (some 31) Try.func26 #[.slice Ao44 t362.length co44,.slice Ao45 t365.length co45] ?_;(with_reducible refine (impl_VaultsOk.calls k _ _ t362 _ _ t365 t368 _ ?side1 ?side2 ?side3 ?side4 A15.out).mono ?_);(case side1 => repeat (first | exact (Kd.R_reads' HO364.out).2.2 | (with_reducible refine Kd.C_alloc ?_ _) | (with_reducible refine Kd.C_drewN ?_ _) | (with_reducible refine Kd.C_drew ?_)));(case side2 => exact (Kd.R_reads' HO364.out).2.1);(case side3 => repeat (first | exact (Kd.R_reads' HO367.out).2.2 | (with_reducible refine Kd.C_alloc ?_ _) | (with_reducible refine Kd.C_drewN ?_ _) | (with_reducible refine Kd.C_drew ?_)));(case side4 => exact (Kd.R_reads' HO367.out).2.1);rintro e w46 ⟨rfl,hb⟩;refine ⟨_,rfl,?_⟩;have n0_:=Up.RB HO357 hb;have n1_:=Up.RB HO360 hb;have n2_:=Up.RB HO364 hb;have n3_:=Up.RB HO367 hb;have n4_:=Up.BB HB hb;clear HO357 HO360 HO364 HO367 HB;have HO357:=n0_;have HO360:=n1_;have HO364:=n2_;have HO367:=n3_;have HB:=n4_;clear n0_ n1_ n2_ n3_ n4_;(try clear hb);(try clear hb2);(try clear hk);(try clear hi)) | ((with_reducible refine gate_callee (f:=21) rfl ?_);refine Up.gl (some 37) Try.func21 #[.slice A0 l0.length c0] ?_;(with_reducible refine (laws_toRecordSS.calls k _ _ l0 t369 _ ?side1 ?side2 A29.out).mono ?_);(case side1 => exact Up.Cx HR0 HB);(case side2 => exact HC0.out);rintro e w47 ⟨v370,rfl,ho0,hb⟩;refine ⟨_,rfl,?_⟩;have n0_:=Aside0.mk (Kd.R_elder' (Up.Rup HO357) (Kd.R_base ho0) hb);have n1_:=Up.RB HO360 hb;have n2_:=Aside0.mk (Kd.R_elder' (Up.Rup HO364) (Kd.R_base ho0) hb);have n3_:=Up.RB HO367 hb;have n4_:=Aside0.mk (Kd.R_lower (Kd.R_new' (Kd.R_new' ho0 (Kd.R_lt (Up.Rup HO357))) (Kd.R_lt (Up.Rup HO364))) (below_size (Up.Bup HB)));have n5_:=Up.BB HB hb;clear HO357 HO360 HO364 HO367 HB;have HO357:=n0_;have HO360:=n1_;have HO364:=n2_;have HO367:=n3_;have HO371:=n4_;have HB:=n5_;clear n0_ n1_ n2_ n3_ n4_ n5_;(try clear hb);(try clear hb2);(try clear hk);(try clear hi);(try clear ho0);obtain ⟨Ao48,co48,eo48⟩:=Kd.R_slice HO371.out;subst eo48) | ((with_reducible refine gate_callee (f:=23) rfl ?_);refine Up.gl (some 38) Try.func23 #[.slice Ao44 t362.length co44,.slice Ao48 t369.length co48] ?_;(with_reducible refine (laws_eqRecordSS.calls k _ _ t362 _ _ t369 true _ ?side1 ?side2 ?side3 ?side4 A30.out).mono ?_);(case side1 => repeat (first | exact (Kd.R_reads' HO364.out).2.2 | (with_reducible refine Kd.C_alloc ?_ _) | (with_reducible refine Kd.C_drewN ?_ _) | (with_reducible refine Kd.C_drew ?_)));(case side2 => exact (Kd.R_reads' HO364.out).2.1);(case side3 => repeat (first | exact (Kd.R_reads' HO371.out).2.2 | (with_reducible refine Kd.C_alloc ?_ _) | (with_reducible refine Kd.C_drewN ?_ _) | (with_reducible refine Kd.C_drew ?_)));(case side4 => exact (Kd.R_reads' HO371.out).2.1);rintro e w49 ⟨rfl,hb⟩;refine ⟨_,rfl,?_⟩;have n0_:=Up.RB HO357 hb;have n1_:=Up.RB HO360 hb;have n2_:=Up.RB HO364 hb;have n3_:=Up.RB HO367 hb;have n4_:=Up.RB HO371 hb;have n5_:=Up.BB HB hb;clear HO357 HO360 HO364 HO367 HO371 HB;have HO357:=n0_;have HO360:=n1_;have HO364:=n2_;have HO367:=n3_;have HO371:=n4_;have HB:=n5_;clear n0_ n1_ n2_ n3_ n4_ n5_;(try clear hb);(try clear hb2);(try clear hk);(try clear hi)) | ((with_reducible refine gate_callee (f:=31) rfl ?_);refine Up.gl (some 42) Try.func31 #[.slice A1 l1.length c1] ?_;(with_reducible refine (laws_toKeptS.calls k _ _ l1 t373 _ ?side1 ?side2 A32.out).mono ?_);(case side1 => exact Up.Cx HR1 HB);(case side2 => exact HC1.out);rintro e w50 ⟨v374,rfl,ho0,hb⟩;refine ⟨_,rfl,?_⟩;have n0_:=Up.RB HO357 hb;have n1_:=Aside0.mk (Kd.R_elder' (Up.Rup HO360) (Kd.R_base ho0) hb);have n2_:=Up.RB HO364 hb;have n3_:=Aside0.mk (Kd.R_elder' (Up.Rup HO367) (Kd.R_base ho0) hb);have n4_:=Up.RB HO371 hb;have n5_:=Aside0.mk (Kd.R_lower (Kd.R_new' (Kd.R_new' ho0 (Kd.R_lt (Up.Rup HO360))) (Kd.R_lt (Up.Rup HO367))) (below_size (Up.Bup HB)));have n6_:=Up.BB HB hb;clear HO357 HO360 HO364 HO367 HO371 HB;have HO357:=n0_;have HO360:=n1_;have HO364:=n2_;have HO367:=n3_;have HO371:=n4_;have HO375:=n5_;have HB:=n6_;clear n0_ n1_ n2_ n3_ n4_ n5_ n6_;(try clear hb);(try clear hb2);(try clear hk);(try clear hi);(try clear ho0);obtain ⟨Ao51,co51,eo51⟩:=Kd.R_slice HO375.out;subst eo51) | ((with_reducible refine gate_callee (f:=32) rfl ?_);refine Up.gl (some 43) Try.func32 #[.slice Ao45 t365.length co45,.slice Ao51 t373.length co51] ?_;(with_reducible refine (laws_eqKeptS.calls k _ _ t365 _ _ t373 true _ ?side1 ?side2 ?side3 ?side4 A33.out).mono ?_);(case side1 => repeat (first | exact (Kd.R_reads' HO367.out).2.2 | (with_reducible refine Kd.C_alloc ?_ _) | (with_reducible refine Kd.C_drewN ?_ _) | (with_reducible refine Kd.C_drew ?_)));(case side2 => exact (Kd.R_reads' HO367.out).2.1);(case side3 => repeat (first | exact (Kd.R_reads' HO375.out).2.2 | (with_reducible refine Kd.C_alloc ?_ _) | (with_reducible refine Kd.C_drewN ?_ _) | (with_reducible refine Kd.C_drew ?_)));(case side4 => exact (Kd.R_reads' HO375.out).2.1);rintro e w52 ⟨rfl,hb⟩;refine ⟨_,rfl,?_⟩;have n0_:=Up.RB HO357 hb;have n1_:=Up.RB HO360 hb;have n2_:=Up.RB HO364 hb;have n3_:=Up.RB HO367 hb;have n4_:=Up.RB HO371 hb;have n5_:=Up.RB HO375 hb;have n6_:=Up.BB HB hb;clear HO357 HO360 HO364 HO367 HO371 HO375 HB;have HO357:=n0_;have HO360:=n1_;have HO364:=n2_;have HO367:=n3_;have HO371:=n4_;have HO375:=n5_;have HB:=n6_;clear n0_ n1_ n2_ n3_ n4_ n5_ n6_;(try clear hb);(try clear hb2);(try clear hk);(try clear hi)))
      go_ret
      exact Up.e1 (Up.Bup HB)
     ·replace c34:=Bool.eq_false_iff.mpr c34
      subst c34
      have H1 : (some false) = some r:=by rw [if_neg (show ¬ (false = true) by decide)] at H;exact H
      clear H
      have H:=H1
      clear H1
      obtain rfl:=Option.some.inj H
      go_enter Try.func9,Try.ntmps9
      go_wp2_with (first | ((with_reducible refine gate_callee (f:=18) rfl ?_);refine Up.gl (some 12) Try.func18 #[.slice A0 l0.length c0,.int .i64 1048576] ?_;(with_reducible refine (laws_szRecordSS.calls k _ _ l0 1048576 t353 _ ?side1 ?side2 A3.out).mono ?_);(case side1 => repeat (first | exact HR0.out | (with_reducible refine Kd.C_alloc ?_ _) | (with_reducible refine Kd.C_drewN ?_ _) | (with_reducible refine Kd.C_drew ?_)));(case side2 => exact HC0.out);rintro e w53 ⟨rfl,hb⟩;refine ⟨_,rfl,?_⟩;have n0_:=Up.BB HB hb;clear HB;have HB:=n0_;clear n0_;(try clear hb);(try clear hb2);(try clear hk);(try clear hi)) | ((with_reducible refine gate_callee (f:=30) rfl ?_);refine Up.gl (some 17) Try.func30 #[.slice A1 l1.length c1,.int .i64 t353] ?_;(with_reducible refine (laws_szKeptS.calls k _ _ l1 t353 t354 _ ?side1 ?side2 A6.out).mono ?_);(case side1 => exact Up.Cx HR1 HB);(case side2 => exact HC1.out);rintro e w54 ⟨rfl,hb⟩;refine ⟨_,rfl,?_⟩;have n0_:=Up.BB HB hb;clear HB;have HB:=n0_;clear n0_;(try clear hb);(try clear hb2);(try clear hk);(try clear hi)) | ((with_reducible refine gate_callee (f:=21) rfl ?_);refine Up.gl (some 21) Try.func21 #[.slice A0 l0.length c0] ?_;(with_reducible refine (laws_toRecordSS.calls k _ _ l0 t355 _ ?side1 ?side2 A10.out).mono ?_);(case side1 => exact Up.Cx HR0 HB);(case side2 => exact HC0.out);rintro e w55 ⟨v356,rfl,ho0,hb⟩;refine ⟨_,rfl,?_⟩;have n0_:=Aside0.mk (Kd.R_lower ho0 (below_size (Up.Bup HB)));have n1_:=Up.BB HB hb;clear HB;have HO357:=n0_;have HB:=n1_;clear n0_ n1_;(try clear hb);(try clear hb2);(try clear hk);(try clear hi);(try clear ho0)) | ((with_reducible refine gate_callee (f:=31) rfl ?_);refine Up.gl (some 23) Try.func31 #[.slice A1 l1.length c1] ?_;(with_reducible refine (laws_toKeptS.calls k _ _ l1 t358 _ ?side1 ?side2 A11.out).mono ?_);(case side1 => exact Up.Cx HR1 HB);(case side2 => exact HC1.out);rintro e w56 ⟨v359,rfl,ho0,hb⟩;refine ⟨_,rfl,?_⟩;have n0_:=Up.RB HO357 hb;have n1_:=Aside0.mk (Kd.R_lower ho0 (below_size (Up.Bup HB)));have n2_:=Up.BB HB hb;clear HO357 HB;have HO357:=n0_;have HO360:=n1_;have HB:=n2_;clear n0_ n1_ n2_;(try clear hb);(try clear hb2);(try clear hk);(try clear hi);(try clear ho0);obtain ⟨Ao57,co57,eo57⟩:=Kd.R_slice HO357.out;subst eo57;obtain ⟨Ao58,co58,eo58⟩:=Kd.R_slice HO360.out;subst eo58) | ((with_reducible refine gate_callee (f:=27) rfl ?_);refine Up.gl (some 24) Try.func27 #[.slice Ao57 t355.length co57,.slice Ao58 t358.length co58] ?_;(with_reducible refine (spec_VaultsOk.calls k _ _ t355 _ _ t358 t361 _ ?side1 ?side2 ?side3 ?side4 A12.out).mono ?_);(case side1 => repeat (first | exact (Kd.R_reads' HO357.out).2.2 | (with_reducible refine Kd.C_alloc ?_ _) | (with_reducible refine Kd.C_drewN ?_ _) | (with_reducible refine Kd.C_drew ?_)));(case side2 => exact (Kd.R_reads' HO357.out).2.1);(case side3 => repeat (first | exact (Kd.R_reads' HO360.out).2.2 | (with_reducible refine Kd.C_alloc ?_ _) | (with_reducible refine Kd.C_drewN ?_ _) | (with_reducible refine Kd.C_drew ?_)));(case side4 => exact (Kd.R_reads' HO360.out).2.1);rintro e w59 ⟨rfl,hb⟩;refine ⟨_,rfl,?_⟩;have n0_:=Up.RB HO357 hb;have n1_:=Up.RB HO360 hb;have n2_:=Up.BB HB hb;clear HO357 HO360 HB;have HO357:=n0_;have HO360:=n1_;have HB:=n2_;clear n0_ n1_ n2_;(try clear hb);(try clear hb2);(try clear hk);(try clear hi)) | ((with_reducible refine gate_callee (f:=21) rfl ?_);refine Up.gl (some 26) Try.func21 #[.slice A0 l0.length c0] ?_;(with_reducible refine (laws_toRecordSS.calls k _ _ l0 t362 _ ?side1 ?side2 A13.out).mono ?_);(case side1 => exact Up.Cx HR0 HB);(case side2 => exact HC0.out);rintro e w60 ⟨v363,rfl,ho0,hb⟩;refine ⟨_,rfl,?_⟩;have n0_:=Aside0.mk (Kd.R_elder' (Up.Rup HO357) (Kd.R_base ho0) hb);have n1_:=Up.RB HO360 hb;have n2_:=Aside0.mk (Kd.R_lower (Kd.R_new' ho0 (Kd.R_lt (Up.Rup HO357))) (below_size (Up.Bup HB)));have n3_:=Up.BB HB hb;clear HO357 HO360 HB;have HO357:=n0_;have HO360:=n1_;have HO364:=n2_;have HB:=n3_;clear n0_ n1_ n2_ n3_;(try clear hb);(try clear hb2);(try clear hk);(try clear hi);(try clear ho0)) | ((with_reducible refine gate_callee (f:=31) rfl ?_);refine Up.gl (some 28) Try.func31 #[.slice A1 l1.length c1] ?_;(with_reducible refine (laws_toKeptS.calls k _ _ l1 t365 _ ?side1 ?side2 A14.out).mono ?_);(case side1 => exact Up.Cx HR1 HB);(case side2 => exact HC1.out);rintro e w61 ⟨v366,rfl,ho0,hb⟩;refine ⟨_,rfl,?_⟩;have n0_:=Up.RB HO357 hb;have n1_:=Aside0.mk (Kd.R_elder' (Up.Rup HO360) (Kd.R_base ho0) hb);have n2_:=Up.RB HO364 hb;have n3_:=Aside0.mk (Kd.R_lower (Kd.R_new' ho0 (Kd.R_lt (Up.Rup HO360))) (below_size (Up.Bup HB)));have n4_:=Up.BB HB hb;clear HO357 HO360 HO364 HB;have HO357:=n0_;have HO360:=n1_;have HO364:=n2_;have HO367:=n3_;have HB:=n4_;clear n0_ n1_ n2_ n3_ n4_;(try clear hb);(try clear hb2);(try clear hk);(try clear hi);(try clear ho0);obtain ⟨Ao62,co62,eo62⟩:=Kd.R_slice HO364.out;subst eo62;obtain ⟨Ao63,co63,eo63⟩:=Kd.R_slice HO367.out;subst eo63) | ((with_reducible refine gate_callee (f:=26) rfl ?_);refine Up.gl (some 31) Try.func26 #[.slice Ao62 t362.length co62,.slice Ao63 t365.length co63] ?_;(with_reducible refine (impl_VaultsOk.calls k _ _ t362 _ _ t365 t368 _ ?side1 ?side2 ?side3 ?side4 A15.out).mono ?_);(case side1 => repeat (first | exact (Kd.R_reads' HO364.out).2.2 | (with_reducible refine Kd.C_alloc ?_ _) | (with_reducible refine Kd.C_drewN ?_ _) | (with_reducible refine Kd.C_drew ?_)));(case side2 => exact (Kd.R_reads' HO364.out).2.1);(case side3 => repeat (first | exact (Kd.R_reads' HO367.out).2.2 | (with_reducible refine Kd.C_alloc ?_ _) | (with_reducible refine Kd.C_drewN ?_ _) | (with_reducible refine Kd.C_drew ?_)));(case side4 => exact (Kd.R_reads' HO367.out).2.1);rintro e w64 ⟨rfl,hb⟩;refine ⟨_,rfl,?_⟩;have n0_:=Up.RB HO357 hb;have n1_:=Up.RB HO360 hb;have n2_:=Up.RB HO364 hb;have n3_:=Up.RB HO367 hb;have n4_:=Up.BB HB hb;clear HO357 HO360 HO364 HO367 HB;have HO357:=n0_;have HO360:=n1_;have HO364:=n2_;have HO367:=n3_;have HB:=n4_;clear n0_ n1_ n2_ n3_ n4_;(try clear hb);(try clear hb2);(try clear hk);(try clear hi)) | ((with_reducible refine gate_callee (f:=21) rfl ?_);refine Up.gl (some 37) Try.func21 #[.slice A0 l0.length c0] ?_;(with_reducible refine (laws_toRecordSS.calls k _ _ l0 t369 _ ?side1 ?side2 A29.out).mono ?_);(case side1 => exact Up.Cx HR0 HB);(case side2 => exact HC0.out);rintro e w65 ⟨v370,rfl,ho0,hb⟩;refine ⟨_,rfl,?_⟩;have n0_:=Aside0.mk (Kd.R_elder' (Up.Rup HO357) (Kd.R_base ho0) hb);have n1_:=Up.RB HO360 hb;have n2_:=Aside0.mk (Kd.R_elder' (Up.Rup HO364) (Kd.R_base ho0) hb);have n3_:=Up.RB HO367 hb;have n4_:=Aside0.mk (Kd.R_lower (Kd.R_new' (Kd.R_new' ho0 (Kd.R_lt (Up.Rup HO357))) (Kd.R_lt (Up.Rup HO364))) (below_size (Up.Bup HB)));have n5_:=Up.BB HB hb;clear HO357 HO360 HO364 HO367 HB;have HO357:=n0_;have HO360:=n1_;have HO364:=n2_;have HO367:=n3_;have HO371:=n4_;have HB:=n5_;clear n0_ n1_ n2_ n3_ n4_ n5_;(try clear hb);(try clear hb2);(try clear hk);(try clear hi);(try clear ho0);obtain ⟨Ao66,co66,eo66⟩:=Kd.R_slice HO371.out;subst eo66) | ((with_reducible refine gate_callee (f:=23) rfl ?_);refine Up.gl (some 38) Try.func23 #[.slice Ao62 t362.length co62,.slice Ao66 t369.length co66] ?_;(with_reducible refine (laws_eqRecordSS.calls k _ _ t362 _ _ t369 true _ ?side1 ?side2 ?side3 ?side4 A30.out).mono ?_);(case side1 => repeat (first | exact (Kd.R_reads' HO364.out).2.2 | (with_reducible refine Kd.C_alloc ?_ _) | (with_reducible refine Kd.C_drewN ?_ _) | (with_reducible refine Kd.C_drew ?_)));(case side2 => exact (Kd.R_reads' HO364.out).2.1);(case side3 => repeat (first | exact (Kd.R_reads' HO371.out).2.2 | (with_reducible refine Kd.C_alloc ?_ _) | (with_reducible refine Kd.C_drewN ?_ _) | (with_reducible refine Kd.C_drew ?_)));(case side4 => exact (Kd.R_reads' HO371.out).2.1);rintro e w67 ⟨rfl,hb⟩;refine ⟨_,rfl,?_⟩;have n0_:=Up.RB HO357 hb;have n1_:=Up.RB HO360 hb;have n2_:=Up.RB HO364 hb;have n3_:=Up.RB HO367 hb;have n4_:=Up.RB HO371 hb;have n5_:=Up.BB HB hb;clear HO357 HO360 HO364 HO367 HO371 HB;have HO357:=n0_;have HO360:=n1_;have HO364:=n2_;have HO367:=n3_;have HO371:=n4_;have HB:=n5_;clear n0_ n1_ n2_ n3_ n4_ n5_;(try clear hb);(try clear hb2);(try clear hk);(try clear hi)) | ((with_reducible refine gate_callee (f:=31) rfl ?_);refine Up.gl (some 42) Try.func31 #[.slice A1 l1.length c1] ?_;(with_reducible refine (laws_toKeptS.calls k _ _ l1 t373 _ ?side1 ?side2 A32.out).mono ?_);(case side1 => exact Up.Cx HR1 HB);(case side2 => exact HC1.out);rintro e w68 ⟨v374,rfl,ho0,hb⟩;refine ⟨_,rfl,?_⟩;have n0_:=Up.RB HO357 hb;have n1_:=Aside0.mk (Kd.R_elder' (Up.Rup HO360) (Kd.R_base ho0) hb);have n2_:=Up.RB HO364 hb;have n3_:=Aside0.mk (Kd.R_elder' (Up.Rup HO367) (Kd.R_base ho0) hb);have n4_:=Up.RB HO371 hb;have n5_:=Aside0.mk (Kd.R_lower (Kd.R_new' (Kd.R_new' ho0 (Kd.R_lt (Up.Rup HO360))) (Kd.R_lt (Up.Rup HO367))) (below_size (Up.Bup HB)));have n6_:=Up.BB HB hb;clear HO357 HO360 HO364 HO367 HO371 HB;have HO357:=n0_;have HO360:=n1_;have HO364:=n2_;have HO367:=n3_;have HO371:=n4_;have HO375:=n5_;have HB:=n6_;clear n0_ n1_ n2_ n3_ n4_ n5_ n6_;(try clear hb);(try clear hb2);(try clear hk);(try clear hi);(try clear ho0);obtain ⟨Ao69,co69,eo69⟩:=Kd.R_slice HO375.out;subst eo69) | ((with_reducible refine gate_callee (f:=32) rfl ?_);refine Up.gl (some 43) Try.func32 #[.slice Ao63 t365.length co63,.slice Ao69 t373.length co69] ?_;(with_reducible refine (laws_eqKeptS.calls k _ _ t365 _ _ t373 false _ ?side1 ?side2 ?side3 ?side4 A33.out).mono ?_);(case side1 => repeat (first | exact (Kd.R_reads' HO367.out).2.2 | (with_reducible refine Kd.C_alloc ?_ _) | (with_reducible refine Kd.C_drewN ?_ _) | (with_reducible refine Kd.C_drew ?_)));(case side2 => exact (Kd.R_reads' HO367.out).2.1);(case side3 => repeat (first | exact (Kd.R_reads' HO375.out).2.2 | (with_reducible refine Kd.C_alloc ?_ _) | (with_reducible refine Kd.C_drewN ?_ _) | (with_reducible refine Kd.C_drew ?_)));(case side4 => exact (Kd.R_reads' HO375.out).2.1);rintro e w70 ⟨rfl,hb⟩;refine ⟨_,rfl,?_⟩;have n0_:=Up.RB HO357 hb;have n1_:=Up.RB HO360 hb;have n2_:=Up.RB HO364 hb;have n3_:=Up.RB HO367 hb;have n4_:=Up.RB HO371 hb;have n5_:=Up.RB HO375 hb;have n6_:=Up.BB HB hb;clear HO357 HO360 HO364 HO367 HO371 HO375 HB;have HO357:=n0_;have HO360:=n1_;have HO364:=n2_;have HO367:=n3_;have HO371:=n4_;have HO375:=n5_;have HB:=n6_;clear n0_ n1_ n2_ n3_ n4_ n5_ n6_;(try clear hb);(try clear hb2);(try clear hk);(try clear hi)))
      go_ret
      exact Up.e1 (Up.Bup HB)
    ·replace c31:=Bool.eq_false_iff.mpr c31
     subst c31
     have H1 : (some false) = some r:=by rw [if_neg (show ¬ (false = true) by decide)] at H;exact H
     clear H
     have H:=H1
     clear H1
     obtain rfl:=Option.some.inj H
     go_enter Try.func9,Try.ntmps9
     go_wp2_with (first | ((with_reducible refine gate_callee (f:=18) rfl ?_);refine Up.gl (some 12) Try.func18 #[.slice A0 l0.length c0,.int .i64 1048576] ?_;(with_reducible refine (laws_szRecordSS.calls k _ _ l0 1048576 t353 _ ?side1 ?side2 A3.out).mono ?_);(case side1 => repeat (first | exact HR0.out | (with_reducible refine Kd.C_alloc ?_ _) | (with_reducible refine Kd.C_drewN ?_ _) | (with_reducible refine Kd.C_drew ?_)));(case side2 => exact HC0.out);rintro e w71 ⟨rfl,hb⟩;refine ⟨_,rfl,?_⟩;have n0_:=Up.BB HB hb;clear HB;have HB:=n0_;clear n0_;(try clear hb);(try clear hb2);(try clear hk);(try clear hi)) | ((with_reducible refine gate_callee (f:=30) rfl ?_);refine Up.gl (some 17) Try.func30 #[.slice A1 l1.length c1,.int .i64 t353] ?_;(with_reducible refine (laws_szKeptS.calls k _ _ l1 t353 t354 _ ?side1 ?side2 A6.out).mono ?_);(case side1 => exact Up.Cx HR1 HB);(case side2 => exact HC1.out);rintro e w72 ⟨rfl,hb⟩;refine ⟨_,rfl,?_⟩;have n0_:=Up.BB HB hb;clear HB;have HB:=n0_;clear n0_;(try clear hb);(try clear hb2);(try clear hk);(try clear hi)) | ((with_reducible refine gate_callee (f:=21) rfl ?_);refine Up.gl (some 21) Try.func21 #[.slice A0 l0.length c0] ?_;(with_reducible refine (laws_toRecordSS.calls k _ _ l0 t355 _ ?side1 ?side2 A10.out).mono ?_);(case side1 => exact Up.Cx HR0 HB);(case side2 => exact HC0.out);rintro e w73 ⟨v356,rfl,ho0,hb⟩;refine ⟨_,rfl,?_⟩;have n0_:=Aside0.mk (Kd.R_lower ho0 (below_size (Up.Bup HB)));have n1_:=Up.BB HB hb;clear HB;have HO357:=n0_;have HB:=n1_;clear n0_ n1_;(try clear hb);(try clear hb2);(try clear hk);(try clear hi);(try clear ho0)) | ((with_reducible refine gate_callee (f:=31) rfl ?_);refine Up.gl (some 23) Try.func31 #[.slice A1 l1.length c1] ?_;(with_reducible refine (laws_toKeptS.calls k _ _ l1 t358 _ ?side1 ?side2 A11.out).mono ?_);(case side1 => exact Up.Cx HR1 HB);(case side2 => exact HC1.out);rintro e w74 ⟨v359,rfl,ho0,hb⟩;refine ⟨_,rfl,?_⟩;have n0_:=Up.RB HO357 hb;have n1_:=Aside0.mk (Kd.R_lower ho0 (below_size (Up.Bup HB)));have n2_:=Up.BB HB hb;clear HO357 HB;have HO357:=n0_;have HO360:=n1_;have HB:=n2_;clear n0_ n1_ n2_;(try clear hb);(try clear hb2);(try clear hk);(try clear hi);(try clear ho0);obtain ⟨Ao75,co75,eo75⟩:=Kd.R_slice HO357.out;subst eo75;obtain ⟨Ao76,co76,eo76⟩:=Kd.R_slice HO360.out;subst eo76) | ((with_reducible refine gate_callee (f:=27) rfl ?_);refine Up.gl (some 24) Try.func27 #[.slice Ao75 t355.length co75,.slice Ao76 t358.length co76] ?_;(with_reducible refine (spec_VaultsOk.calls k _ _ t355 _ _ t358 t361 _ ?side1 ?side2 ?side3 ?side4 A12.out).mono ?_);(case side1 => repeat (first | exact (Kd.R_reads' HO357.out).2.2 | (with_reducible refine Kd.C_alloc ?_ _) | (with_reducible refine Kd.C_drewN ?_ _) | (with_reducible refine Kd.C_drew ?_)));(case side2 => exact (Kd.R_reads' HO357.out).2.1);(case side3 => repeat (first | exact (Kd.R_reads' HO360.out).2.2 | (with_reducible refine Kd.C_alloc ?_ _) | (with_reducible refine Kd.C_drewN ?_ _) | (with_reducible refine Kd.C_drew ?_)));(case side4 => exact (Kd.R_reads' HO360.out).2.1);rintro e w77 ⟨rfl,hb⟩;refine ⟨_,rfl,?_⟩;have n0_:=Up.RB HO357 hb;have n1_:=Up.RB HO360 hb;have n2_:=Up.BB HB hb;clear HO357 HO360 HB;have HO357:=n0_;have HO360:=n1_;have HB:=n2_;clear n0_ n1_ n2_;(try clear hb);(try clear hb2);(try clear hk);(try clear hi)) | ((with_reducible refine gate_callee (f:=21) rfl ?_);refine Up.gl (some 26) Try.func21 #[.slice A0 l0.length c0] ?_;(with_reducible refine (laws_toRecordSS.calls k _ _ l0 t362 _ ?side1 ?side2 A13.out).mono ?_);(case side1 => exact Up.Cx HR0 HB);(case side2 => exact HC0.out);rintro e w78 ⟨v363,rfl,ho0,hb⟩;refine ⟨_,rfl,?_⟩;have n0_:=Aside0.mk (Kd.R_elder' (Up.Rup HO357) (Kd.R_base ho0) hb);have n1_:=Up.RB HO360 hb;have n2_:=Aside0.mk (Kd.R_lower (Kd.R_new' ho0 (Kd.R_lt (Up.Rup HO357))) (below_size (Up.Bup HB)));have n3_:=Up.BB HB hb;clear HO357 HO360 HB;have HO357:=n0_;have HO360:=n1_;have HO364:=n2_;have HB:=n3_;clear n0_ n1_ n2_ n3_;(try clear hb);(try clear hb2);(try clear hk);(try clear hi);(try clear ho0)) | ((with_reducible refine gate_callee (f:=31) rfl ?_);refine Up.gl (some 28) Try.func31 #[.slice A1 l1.length c1] ?_;(with_reducible refine (laws_toKeptS.calls k _ _ l1 t365 _ ?side1 ?side2 A14.out).mono ?_);(case side1 => exact Up.Cx HR1 HB);(case side2 => exact HC1.out);rintro e w79 ⟨v366,rfl,ho0,hb⟩;refine ⟨_,rfl,?_⟩;have n0_:=Up.RB HO357 hb;have n1_:=Aside0.mk (Kd.R_elder' (Up.Rup HO360) (Kd.R_base ho0) hb);have n2_:=Up.RB HO364 hb;have n3_:=Aside0.mk (Kd.R_lower (Kd.R_new' ho0 (Kd.R_lt (Up.Rup HO360))) (below_size (Up.Bup HB)));have n4_:=Up.BB HB hb;clear HO357 HO360 HO364 HB;have HO357:=n0_;have HO360:=n1_;have HO364:=n2_;have HO367:=n3_;have HB:=n4_;clear n0_ n1_ n2_ n3_ n4_;(try clear hb);(try clear hb2);(try clear hk);(try clear hi);(try clear ho0);obtain ⟨Ao80,co80,eo80⟩:=Kd.R_slice HO364.out;subst eo80;obtain ⟨Ao81,co81,eo81⟩:=Kd.R_slice HO367.out;subst eo81) | ((with_reducible refine gate_callee (f:=26) rfl ?_);refine Up.gl (some 31) Try.func26 #[.slice Ao80 t362.length co80,.slice Ao81 t365.length co81] ?_;(with_reducible refine (impl_VaultsOk.calls k _ _ t362 _ _ t365 t368 _ ?side1 ?side2 ?side3 ?side4 A15.out).mono ?_);(case side1 => repeat (first | exact (Kd.R_reads' HO364.out).2.2 | (with_reducible refine Kd.C_alloc ?_ _) | (with_reducible refine Kd.C_drewN ?_ _) | (with_reducible refine Kd.C_drew ?_)));(case side2 => exact (Kd.R_reads' HO364.out).2.1);(case side3 => repeat (first | exact (Kd.R_reads' HO367.out).2.2 | (with_reducible refine Kd.C_alloc ?_ _) | (with_reducible refine Kd.C_drewN ?_ _) | (with_reducible refine Kd.C_drew ?_)));(case side4 => exact (Kd.R_reads' HO367.out).2.1);rintro e w82 ⟨rfl,hb⟩;refine ⟨_,rfl,?_⟩;have n0_:=Up.RB HO357 hb;have n1_:=Up.RB HO360 hb;have n2_:=Up.RB HO364 hb;have n3_:=Up.RB HO367 hb;have n4_:=Up.BB HB hb;clear HO357 HO360 HO364 HO367 HB;have HO357:=n0_;have HO360:=n1_;have HO364:=n2_;have HO367:=n3_;have HB:=n4_;clear n0_ n1_ n2_ n3_ n4_;(try clear hb);(try clear hb2);(try clear hk);(try clear hi)) | ((with_reducible refine gate_callee (f:=21) rfl ?_);refine Up.gl (some 37) Try.func21 #[.slice A0 l0.length c0] ?_;(with_reducible refine (laws_toRecordSS.calls k _ _ l0 t369 _ ?side1 ?side2 A29.out).mono ?_);(case side1 => exact Up.Cx HR0 HB);(case side2 => exact HC0.out);rintro e w83 ⟨v370,rfl,ho0,hb⟩;refine ⟨_,rfl,?_⟩;have n0_:=Aside0.mk (Kd.R_elder' (Up.Rup HO357) (Kd.R_base ho0) hb);have n1_:=Up.RB HO360 hb;have n2_:=Aside0.mk (Kd.R_elder' (Up.Rup HO364) (Kd.R_base ho0) hb);have n3_:=Up.RB HO367 hb;have n4_:=Aside0.mk (Kd.R_lower (Kd.R_new' (Kd.R_new' ho0 (Kd.R_lt (Up.Rup HO357))) (Kd.R_lt (Up.Rup HO364))) (below_size (Up.Bup HB)));have n5_:=Up.BB HB hb;clear HO357 HO360 HO364 HO367 HB;have HO357:=n0_;have HO360:=n1_;have HO364:=n2_;have HO367:=n3_;have HO371:=n4_;have HB:=n5_;clear n0_ n1_ n2_ n3_ n4_ n5_;(try clear hb);(try clear hb2);(try clear hk);(try clear hi);(try clear ho0);obtain ⟨Ao84,co84,eo84⟩:=Kd.R_slice HO371.out;subst eo84) | ((with_reducible refine gate_callee (f:=23) rfl ?_);refine Up.gl (some 38) Try.func23 #[.slice Ao80 t362.length co80,.slice Ao84 t369.length co84] ?_;(with_reducible refine (laws_eqRecordSS.calls k _ _ t362 _ _ t369 false _ ?side1 ?side2 ?side3 ?side4 A30.out).mono ?_);(case side1 => repeat (first | exact (Kd.R_reads' HO364.out).2.2 | (with_reducible refine Kd.C_alloc ?_ _) | (with_reducible refine Kd.C_drewN ?_ _) | (with_reducible refine Kd.C_drew ?_)));(case side2 => exact (Kd.R_reads' HO364.out).2.1);(case side3 => repeat (first | exact (Kd.R_reads' HO371.out).2.2 | (with_reducible refine Kd.C_alloc ?_ _) | (with_reducible refine Kd.C_drewN ?_ _) | (with_reducible refine Kd.C_drew ?_)));(case side4 => exact (Kd.R_reads' HO371.out).2.1);rintro e w85 ⟨rfl,hb⟩;refine ⟨_,rfl,?_⟩;have n0_:=Up.RB HO357 hb;have n1_:=Up.RB HO360 hb;have n2_:=Up.RB HO364 hb;have n3_:=Up.RB HO367 hb;have n4_:=Up.RB HO371 hb;have n5_:=Up.BB HB hb;clear HO357 HO360 HO364 HO367 HO371 HB;have HO357:=n0_;have HO360:=n1_;have HO364:=n2_;have HO367:=n3_;have HO371:=n4_;have HB:=n5_;clear n0_ n1_ n2_ n3_ n4_ n5_;(try clear hb);(try clear hb2);(try clear hk);(try clear hi)))
     go_ret
     exact Up.e1 (Up.Bup HB)

end Go.Proofs.Ytdgmlakgnbmbbaa.OFnExactVaultsOk
