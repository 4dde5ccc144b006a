-- Laid by a program of this session (wip/myprint.py): the kit's print of the functions, contracts of our own among them.
import Derived.Test.YtpfpfnjmhdgglaaDoorOFnExactShapeTextx0
import Derived.Test.YtpfpfnjmhdgglaaDoorOFnExactShapeTextx1
import Derived.Test.YtpfpfnjmhdgglaaDoorOFnExactShapeTextx2
import Derived.Test.YtpfpfnjmhdgglaaDoorOFnExactShapeTextx3
namespace Go.Proofs.YtpfpfnjmhdgglaaDoor.OFnExactShapeText
open Go.RowKit Go.Proofs.YtpfpfnjmhdgglaaDoorW.PrintWords Go.Proofs.YtpfpfnjmhdgglaaDoorW.PrintLast Go.Proofs.YtpfpfnjmhdgglaaDoorW.PrintMore
attribute [local go_sem] max2_int min2_int max_two min_two max_three min_three max_four min_four   -- for this text's walks alone
set_option linter.unusedVariables false
set_option linter.unusedSimpArgs false

/-! ### laws_eqMarkS: function 14 -/
def laws_eqMarkS.l0 : Nat → List (S39) → List (S39) → Int → Option (Bool)
 | 0,_,_,_ => none
 | k + 1,x0,x1,x5 => if x5 < (x0.length : Int) then (if 0 ≤ x5 then (if x5 < (x1.length : Int) then ((laws_eqMark.f k ((rd_T39 x0 x5).f0) ((rd_T39 x0 x5).f1) ((rd_T39 x1 x5).f0) ((rd_T39 x1 x5).f1)).bind fun t183 => (if t183 = true then (laws_eqMarkS.l0 k x0 x1 (wrap64 (x5 + 1))) else (some false))) else (none)) else (none)) else (some true)
def laws_eqMarkS.f (k : Nat) (l0 : List (S39)) (l1 : List (S39)) : Option (Bool):=if (l0.length : Int) = (l1.length : Int) then (laws_eqMarkS.l0 k l0 l1 0) else (some false)
theorem laws_eqMarkS.mono_l : ∀ k,(∀ y0 y1 y2,LeO (laws_eqMarkS.l0 k y0 y1 y2) (laws_eqMarkS.l0 (k + 1) y0 y1 y2))
 | 0 => fun _ _ _ r h => by simp [laws_eqMarkS.l0] at h
 | k + 1 => by
  have ih0:=laws_eqMarkS.mono_l k
  ·intro y0 y1 y2
   unfold laws_eqMarkS.l0
   repeat' first
   | (with_reducible exact ih0 _ _ _)
   | (with_reducible exact laws_eqMark.mono _ _ _ _ _)
   | (with_reducible exact LeO.refl _)
   | (with_reducible exact LeO.none _)
   | (with_reducible refine LeO.ite ?_ ?_)
   | (with_reducible refine LeO.bind ?_ (fun _ => ?_))
   | exact ih0 _ _ _
   | exact laws_eqMark.mono _ _ _ _ _
   | exact LeO.none _
   | refine LeO.ite ?_ ?_
   | refine LeO.bind ?_ (fun _ => ?_)
theorem laws_eqMarkS.mono : ∀ a0 a1 k,LeO (laws_eqMarkS.f k a0 a1) (laws_eqMarkS.f (k + 1) a0 a1):=by
 intro a0 a1 k
 have ih0:=laws_eqMarkS.mono_l k
 unfold laws_eqMarkS.f
 repeat' first
   | (with_reducible exact ih0 _ _ _)
   | (with_reducible exact laws_eqMark.mono _ _ _ _ _)
   | (with_reducible exact LeO.refl _)
   | (with_reducible exact LeO.none _)
   | (with_reducible refine LeO.ite ?_ ?_)
   | (with_reducible refine LeO.bind ?_ (fun _ => ?_))
   | exact ih0 _ _ _
   | exact laws_eqMark.mono _ _ _ _ _
   | exact LeO.none _
   | refine LeO.ite ?_ ?_
   | refine LeO.bind ?_ (fun _ => ?_)
def laws_eqMarkS.T6 : Bool × List (List Nat × List Nat):=(true,[([],[]),([],[]),([0,1],[0,1]),([2],[2]),([],[]),([],[]),([4,5],[4,5]),([6],[6]),([3,7],[3,7]),([8],[8])])
def laws_eqMarkS.B6 : List Nat:=[0,0,3,7,0,0,48,112,255,511]
theorem laws_eqMarkS.tab6 : rtab .any (opsOf Tryd.f14 6) = laws_eqMarkS.T6:=by kernel_rfl
theorem laws_eqMarkS.bits6 : waitsOk laws_eqMarkS.T6.2 laws_eqMarkS.B6 = true:=by kernel_rfl
set_option maxHeartbeats 8000000 in
set_option maxRecDepth 100000 in
theorem laws_eqMarkS.calls (k : Nat) (A0 : Option Addr) (c0 : Nat) (l0 : List (S39)) (A1 : Option Addr) (c1 : Nat) (l1 : List (S39)) (r : Bool) (w : World) (hr0 : Kd.C k39 w A0 l0.length l0) (hc0 : l0.length ≤ c0) (hr1 : Kd.C k39 w A1 l1.length l1) (hc1 : l1.length ≤ c1) (h : laws_eqMarkS.f k l0 l1 = some r) :
  Calls Tryd.prog 14 #[.slice A0 l0.length c0,.slice A1 l1.length c1] w fun e w' => e = .returned (.bool r) ∧ Below w.heap.size w w':=by
 have hu39:=Tryd.underlying39
 have HR0:=Aside0.mk hr0
 have HC0:=Aside0.mk hc0
 clear hr0 hc0
 have HR1:=Aside0.mk hr1
 have HC1:=Aside0.mk hc1
 clear hr1 hc1
 have HB:=Aside0.mk (Below.refl w.heap.size w)
 have H : (if (l0.length : Int) = (l1.length : Int) then (laws_eqMarkS.l0 k l0 l1 0) else (some false)) = some r:=h
 clear h
 by_cases c3 : (l0.length : Int) = (l1.length : Int)
 ·rw [if_pos c3] at H
  have c3b0 : ((l0.length : Int) == (l1.length : Int)) = true:=beq_iff_eq.mpr c3
  have c3b1 : ((l0.length : Int) != (l1.length : Int)) = false:=bne_eq_false_iff_eq.mpr c3
  have c3b2 : (l0.length == l1.length) = true:=by first | simpa using c3 | (simp at c3 ⊢;omega)
  clear c3
  have H':=Aside0.mk H
  clear H
  go_enter Tryd.func14,Tryd.ntmps14
  go_wp2
  go_loopg [5] k (fun kq v5 w' => ∃ (x5_1 : Int),v5 = .int .i64 x5_1 ∧ Aside0 (laws_eqMarkS.l0 kq l0 l1 x5_1 = some r) ∧ Aside0 (kq ≤ k) ∧ Aside0 (Below w.heap.size w w'))
  case atStart => exact ⟨(0),(by first | rfl | (simp;done) | (simp [*];done)),H',⟨Nat.le_refl _⟩,⟨Up.Bup HB⟩⟩
  case round =>
   clear H'
   try clear c1
   try clear p2
   try clear c3
   try clear c3b0
   try clear c3b1
   try clear c3b2
   obtain ⟨x5_1,rfl,HA,HK1,HB⟩:=hrel
   cases gk with
   | zero => exact absurd HA.out (by simp [laws_eqMarkS.l0])
   | succ k1 =>
    have H:=HA.out
    clear HA
    simp only [laws_eqMarkS.l0] at H
    by_cases c4 : x5_1 < (l0.length : Int)
    ·rw [if_pos c4] at H
     have c4b0 : decide (x5_1 < (l0.length : Int)) = true:=decide_eq_true c4
     clear c4
     by_cases c5 : 0 ≤ x5_1
     ·rw [if_pos c5] at H
      have c5b0 : decide (0 ≤ x5_1) = true:=decide_eq_true c5
      clear c5
      by_cases c6 : x5_1 < (l1.length : Int)
      ·rw [if_pos c6] at H
       have c6b0 : decide (x5_1 < (l1.length : Int)) = true:=decide_eq_true c6
       clear c6
       replace H:=Option.bind_eq_some_iff.mp H
       obtain ⟨t183,A70,H⟩:=H
       replace H : (if t183 = true then (laws_eqMarkS.l0 k1 l0 l1 (wrap64 (x5_1 + 1))) else (some false)) = some r:=H
       have A7:=Aside0.mk A70
       clear A70
       by_cases c8 : t183 = true
       ·subst c8
        have H1 : (laws_eqMarkS.l0 k1 l0 l1 (wrap64 (x5_1 + 1))) = some r:=by rw [if_pos rfl] at H;exact H
        clear H
        have H:=H1
        clear H1
        have H':=Aside0.mk H
        clear H
        try go_wp2
        have n0_:=Aside0.mk (below_drew1 HB.out)
        clear HB
        have HB:=n0_
        clear n0_
        have p181 : 0 ≤ (x5_1 : Int):=Up.od
        have q181 : x5_1 < (l0.length : Int):=Up.od
        obtain ⟨ad181,A181_1,c181_1,e181,hx181_0,hx181_1,hl181_1,hi181_1⟩:=at_T39 HR0.out x5_1 p181 q181
        have hw181_1:=hx181_1
        have hw181_0:=hx181_0
        cases e181
        replace hx181_0:=Up.hc HB hx181_0
        replace hx181_1:=Up.hc HB hx181_1
        have HR181_1:=Aside0.mk hi181_1
        have HC181_1:=Aside0.mk hl181_1
        clear hi181_1 hl181_1
        replace p181:=eq_true p181
        replace q181:=eq_true q181
        have p182 : 0 ≤ (x5_1 : Int):=Up.od
        have q182 : x5_1 < (l1.length : Int):=Up.od
        obtain ⟨ad182,A182_1,c182_1,e182,hx182_0,hx182_1,hl182_1,hi182_1⟩:=at_T39 HR1.out x5_1 p182 q182
        have hw182_1:=hx182_1
        have hw182_0:=hx182_0
        cases e182
        replace hx182_0:=Up.hc HB hx182_0
        replace hx182_1:=Up.hc HB hx182_1
        have HR182_1:=Aside0.mk hi182_1
        have HC182_1:=Aside0.mk hl182_1
        clear hi182_1 hl182_1
        replace p182:=eq_true p182
        replace q182:=eq_true q182
        refine start_ (n:=10) (S:=fun w' => w'.cell? (ad181.add ((x5_1).toNat * 2)) = some (.string ((rd_T39 l0 x5_1).f0)) ∧ w'.cell? ⟨(ad181.add ((x5_1).toNat * 2)).block,(ad181.add ((x5_1).toNat * 2)).off + 1,none⟩ = some (.slice A181_1 ((rd_T39 l0 x5_1).f1).length c181_1) ∧ w'.cell? (ad182.add ((x5_1).toNat * 2)) = some (.string ((rd_T39 l1 x5_1).f0)) ∧ w'.cell? ⟨(ad182.add ((x5_1).toNat * 2)).block,(ad182.add ((x5_1).toNat * 2)).off + 1,none⟩ = some (.slice A182_1 ((rd_T39 l1 x5_1).f1).length c182_1)) (ds:=[]) #[false,false,false,false,false,false,false,false,false,false] (by kernel_rfl) rfl rfl ⟨(Up.hd HB hw181_0),(Up.hd HB hw181_1),(Up.hd HB hw182_0),(Up.hd HB hw182_1)⟩ (fun hHeld => ?_);refine with_tabW laws_eqMarkS.tab6 laws_eqMarkS.bits6 (fun HT_ HW_ => ?_)
        generalize wr.drew = w9 at HB HR181_1 HR182_1 hx181_0 hx181_1 hx182_0 hx182_1 hHeld ⊢
        refine Up.pu 0 (some 17) HT_ ?_
        refine Up.pu 1 (some 18) HT_ ?_
        refine Up.pu 2 (some 19) HT_ ?_
        refine Up.pu 4 (some 21) HT_ ?_
        refine Up.pu 5 (some 22) HT_ ?_
        refine Up.pu 6 (some 23) HT_ ?_
        refine Up.tk 3 (some 20) HT_ HW_ hHeld ?_ (hy:=by rintro w' ⟨s0,s1,s2,s3⟩;go_simp;with_reducible rfl)
        refine Up.tk 7 (some 24) HT_ HW_ hHeld ?_ (hy:=by rintro w' ⟨s0,s1,s2,s3⟩;go_simp;with_reducible rfl)
        refine Up.on 8 (some 25) HT_ (fun K hK => ?_)
        refine Up.go Tryd.func22 #[.agg #[.string ((rd_T39 l0 x5_1).f0),.slice A181_1 ((rd_T39 l0 x5_1).f1).length c181_1],.agg #[.string ((rd_T39 l1 x5_1).f0),.slice A182_1 ((rd_T39 l1 x5_1).f1).length c182_1]] ?_
        with_reducible refine (laws_eqMark.calls k1 ((rd_T39 l0 x5_1).f0) _ _ ((rd_T39 l0 x5_1).f1) ((rd_T39 l1 x5_1).f0) _ _ ((rd_T39 l1 x5_1).f1) true _ ?side1 ?side2 ?side3 ?side4 A7.out).mono ?_
        (case side1 => exact Up.Cx HR181_1 HB)
        (case side2 => exact HC181_1.out)
        (case side3 => exact Up.Cx HR182_1 HB)
        (case side4 => exact HC182_1.out)
        rintro e w10 ⟨rfl,hb⟩
        refine ⟨_,rfl,?_⟩
        have n0_:=Up.BB HB hb
        clear HB
        have HB:=n0_
        clear n0_
        (try clear hb)
        (try clear hb2)
        (try clear hk)
        (try clear hi)
        refine hK.out _ _ ⟨(Up.hd HB hw181_0),(Up.hd HB hw181_1),(Up.hd HB hw182_0),(Up.hd HB hw182_1)⟩ (fun hHeld => ?_)
        clear hK K
        refine Up.nm 25 ?_
        refine Up.pu 9 (some 26) HT_ ?_
        refine done_ (done_of HT_.out (by kernel_rfl)) ?_
        try go_wp2
        go_roundg k1
        case measure => have:=HK1.out;omega
        case rel => exact ⟨(wrap64 (x5_1 + 1)),(by first | rfl | (simp;done) | (simp [*];done)),H',⟨by have:=HK1.out;omega⟩,⟨Up.Bup HB⟩⟩
       ·replace c8:=Bool.eq_false_iff.mpr c8
        subst c8
        have H1 : (some false) = some r:=by rw [if_neg (show ¬ (false = true) by decide)] at H;exact H
        clear H
        have H:=H1
        clear H1
        obtain rfl:=Option.some.inj H
        try go_wp2
        have n0_:=Aside0.mk (below_drew1 HB.out)
        clear HB
        have HB:=n0_
        clear n0_
        have p181 : 0 ≤ (x5_1 : Int):=Up.od
        have q181 : x5_1 < (l0.length : Int):=Up.od
        obtain ⟨ad181,A181_1,c181_1,e181,hx181_0,hx181_1,hl181_1,hi181_1⟩:=at_T39 HR0.out x5_1 p181 q181
        have hw181_1:=hx181_1
        have hw181_0:=hx181_0
        cases e181
        replace hx181_0:=Up.hc HB hx181_0
        replace hx181_1:=Up.hc HB hx181_1
        have HR181_1:=Aside0.mk hi181_1
        have HC181_1:=Aside0.mk hl181_1
        clear hi181_1 hl181_1
        replace p181:=eq_true p181
        replace q181:=eq_true q181
        have p182 : 0 ≤ (x5_1 : Int):=Up.od
        have q182 : x5_1 < (l1.length : Int):=Up.od
        obtain ⟨ad182,A182_1,c182_1,e182,hx182_0,hx182_1,hl182_1,hi182_1⟩:=at_T39 HR1.out x5_1 p182 q182
        have hw182_1:=hx182_1
        have hw182_0:=hx182_0
        cases e182
        replace hx182_0:=Up.hc HB hx182_0
        replace hx182_1:=Up.hc HB hx182_1
        have HR182_1:=Aside0.mk hi182_1
        have HC182_1:=Aside0.mk hl182_1
        clear hi182_1 hl182_1
        replace p182:=eq_true p182
        replace q182:=eq_true q182
        refine start_ (n:=10) (S:=fun w' => w'.cell? (ad181.add ((x5_1).toNat * 2)) = some (.string ((rd_T39 l0 x5_1).f0)) ∧ w'.cell? ⟨(ad181.add ((x5_1).toNat * 2)).block,(ad181.add ((x5_1).toNat * 2)).off + 1,none⟩ = some (.slice A181_1 ((rd_T39 l0 x5_1).f1).length c181_1) ∧ w'.cell? (ad182.add ((x5_1).toNat * 2)) = some (.string ((rd_T39 l1 x5_1).f0)) ∧ w'.cell? ⟨(ad182.add ((x5_1).toNat * 2)).block,(ad182.add ((x5_1).toNat * 2)).off + 1,none⟩ = some (.slice A182_1 ((rd_T39 l1 x5_1).f1).length c182_1)) (ds:=[]) #[false,false,false,false,false,false,false,false,false,false] (by kernel_rfl) rfl rfl ⟨(Up.hd HB hw181_0),(Up.hd HB hw181_1),(Up.hd HB hw182_0),(Up.hd HB hw182_1)⟩ (fun hHeld => ?_);refine with_tabW laws_eqMarkS.tab6 laws_eqMarkS.bits6 (fun HT_ HW_ => ?_)
        generalize wr.drew = w11 at HB HR181_1 HR182_1 hx181_0 hx181_1 hx182_0 hx182_1 hHeld ⊢
        refine Up.pu 0 (some 17) HT_ ?_
        refine Up.pu 1 (some 18) HT_ ?_
        refine Up.pu 2 (some 19) HT_ ?_
        refine Up.pu 4 (some 21) HT_ ?_
        refine Up.pu 5 (some 22) HT_ ?_
        refine Up.pu 6 (some 23) HT_ ?_
        refine Up.tk 3 (some 20) HT_ HW_ hHeld ?_ (hy:=by rintro w' ⟨s0,s1,s2,s3⟩;go_simp;with_reducible rfl)
        refine Up.tk 7 (some 24) HT_ HW_ hHeld ?_ (hy:=by rintro w' ⟨s0,s1,s2,s3⟩;go_simp;with_reducible rfl)
        refine Up.on 8 (some 25) HT_ (fun K hK => ?_)
        refine Up.go Tryd.func22 #[.agg #[.string ((rd_T39 l0 x5_1).f0),.slice A181_1 ((rd_T39 l0 x5_1).f1).length c181_1],.agg #[.string ((rd_T39 l1 x5_1).f0),.slice A182_1 ((rd_T39 l1 x5_1).f1).length c182_1]] ?_
        with_reducible refine (laws_eqMark.calls k1 ((rd_T39 l0 x5_1).f0) _ _ ((rd_T39 l0 x5_1).f1) ((rd_T39 l1 x5_1).f0) _ _ ((rd_T39 l1 x5_1).f1) false _ ?side1 ?side2 ?side3 ?side4 A7.out).mono ?_
        (case side1 => exact Up.Cx HR181_1 HB)
        (case side2 => exact HC181_1.out)
        (case side3 => exact Up.Cx HR182_1 HB)
        (case side4 => exact HC182_1.out)
        rintro e w12 ⟨rfl,hb⟩
        refine ⟨_,rfl,?_⟩
        have n0_:=Up.BB HB hb
        clear HB
        have HB:=n0_
        clear n0_
        (try clear hb)
        (try clear hb2)
        (try clear hk)
        (try clear hi)
        refine hK.out _ _ ⟨(Up.hd HB hw181_0),(Up.hd HB hw181_1),(Up.hd HB hw182_0),(Up.hd HB hw182_1)⟩ (fun hHeld => ?_)
        clear hK K
        refine Up.nm 25 ?_
        refine Up.pu 9 (some 26) HT_ ?_
        refine done_ (done_of HT_.out (by kernel_rfl)) ?_
        try go_wp2
        go_ret
        exact Up.e1 (Up.Bup HB)
      ·rw [if_neg c6] at H
       exact absurd H (by simp)
     ·rw [if_neg c5] at H
      exact absurd H (by simp)
    ·rw [if_neg c4] at H
     have c4b0 : decide (x5_1 < (l0.length : Int)) = false:=decide_eq_false c4
     clear c4
     obtain rfl:=Option.some.inj H
     go_wp2
     go_ret
     exact Up.e1 (Up.Bup HB)
 ·rw [if_neg c3] at H
  have c3b0 : ((l0.length : Int) == (l1.length : Int)) = false:=beq_eq_false_iff_ne.mpr c3
  have c3b1 : ((l0.length : Int) != (l1.length : Int)) = true:=bne_iff_ne.mpr c3
  have c3b2 : (l0.length == l1.length) = false:=by first | simpa using c3 | (simp at c3 ⊢;omega)
  obtain rfl:=Option.some.inj H
  go_enter Tryd.func14,Tryd.ntmps14
  go_wp2
  go_ret
  exact Up.e1 (Up.Bup HB)

/-! ### laws_eqShape: function 8 -/
def laws_eqShape.f (k : Nat) (l0_0 : List (S39)) (l0_1 : List (S39)) (l1_0 : List (S39)) (l1_1 : List (S39)) : Option (Bool):=(laws_eqMarkS.f k l0_0 l1_0).bind fun t186 => (if t186 = true then ((laws_eqMarkS.f k l0_1 l1_1).bind fun t187 => (if t187 = true then (some true) else (some false))) else (some false))
theorem laws_eqShape.mono : ∀ a0 a1 a2 a3 k,LeO (laws_eqShape.f k a0 a1 a2 a3) (laws_eqShape.f (k + 1) a0 a1 a2 a3):=by
 intro a0 a1 a2 a3 k
 unfold laws_eqShape.f
 repeat' first
   | (with_reducible exact laws_eqMarkS.mono _ _ _)
   | (with_reducible exact LeO.refl _)
   | (with_reducible exact LeO.none _)
   | (with_reducible refine LeO.ite ?_ ?_)
   | (with_reducible refine LeO.bind ?_ (fun _ => ?_))
   | exact laws_eqMarkS.mono _ _ _
   | exact LeO.none _
   | refine LeO.ite ?_ ?_
   | refine LeO.bind ?_ (fun _ => ?_)
set_option maxHeartbeats 8000000 in
set_option maxRecDepth 100000 in
theorem laws_eqShape.calls (k : Nat) (A0_0 : Option Addr) (c0_0 : Nat) (l0_0 : List (S39)) (A0_1 : Option Addr) (c0_1 : Nat) (l0_1 : List (S39)) (A1_0 : Option Addr) (c1_0 : Nat) (l1_0 : List (S39)) (A1_1 : Option Addr) (c1_1 : Nat) (l1_1 : List (S39)) (r : Bool) (w : World) (hr0_0 : Kd.C k39 w A0_0 l0_0.length l0_0) (hc0_0 : l0_0.length ≤ c0_0) (hr0_1 : Kd.C k39 w A0_1 l0_1.length l0_1) (hc0_1 : l0_1.length ≤ c0_1) (hr1_0 : Kd.C k39 w A1_0 l1_0.length l1_0) (hc1_0 : l1_0.length ≤ c1_0) (hr1_1 : Kd.C k39 w A1_1 l1_1.length l1_1) (hc1_1 : l1_1.length ≤ c1_1) (h : laws_eqShape.f k l0_0 l0_1 l1_0 l1_1 = some r) :
  Calls Tryd.prog 8 #[.agg #[.slice A0_0 l0_0.length c0_0,.slice A0_1 l0_1.length c0_1],.agg #[.slice A1_0 l1_0.length c1_0,.slice A1_1 l1_1.length c1_1]] w fun e w' => e = .returned (.bool r) ∧ Below w.heap.size w w':=by
 have hu29:=Tryd.underlying29
 have HR0_0:=Aside0.mk hr0_0
 have HC0_0:=Aside0.mk hc0_0
 clear hr0_0 hc0_0
 have HR0_1:=Aside0.mk hr0_1
 have HC0_1:=Aside0.mk hc0_1
 clear hr0_1 hc0_1
 have HR1_0:=Aside0.mk hr1_0
 have HC1_0:=Aside0.mk hc1_0
 clear hr1_0 hc1_0
 have HR1_1:=Aside0.mk hr1_1
 have HC1_1:=Aside0.mk hc1_1
 clear hr1_1 hc1_1
 have HB:=Aside0.mk (Below.refl w.heap.size w)
 have H : ((laws_eqMarkS.f k l0_0 l1_0).bind fun t186 => (if t186 = true then ((laws_eqMarkS.f k l0_1 l1_1).bind fun t187 => (if t187 = true then (some true) else (some false))) else (some false))) = some r:=h
 clear h
 replace H:=Option.bind_eq_some_iff.mp H
 obtain ⟨t186,A30,H⟩:=H
 replace H : (if t186 = true then ((laws_eqMarkS.f k l0_1 l1_1).bind fun t187 => (if t187 = true then (some true) else (some false))) else (some false)) = some r:=H
 have A3:=Aside0.mk A30
 clear A30
 by_cases c4 : t186 = true
 ·subst c4
  have H1 : ((laws_eqMarkS.f k l0_1 l1_1).bind fun t187 => (if t187 = true then (some true) else (some false))) = some r:=by rw [if_pos rfl] at H;exact H
  clear H
  have H:=H1
  clear H1
  replace H:=Option.bind_eq_some_iff.mp H
  obtain ⟨t187,A50,H⟩:=H
  replace H : (if t187 = true then (some true) else (some false)) = some r:=H
  have A5:=Aside0.mk A50
  clear A50
  by_cases c6 : t187 = true
  ·subst c6
   have H1 : (some true) = some r:=by rw [if_pos rfl] at H;exact H
   clear H
   have H:=H1
   clear H1
   obtain rfl:=Option.some.inj H
   go_enter Tryd.func8,Tryd.ntmps8
   go_wp2_with (first | ((with_reducible refine gate_dst (N:=2) rfl ?_);refine Up.bx 2 29 #[.slice A0_0 l0_0.length c0_0,.slice A0_1 l0_1.length c0_1] ?_;intro gb184 hg w7 hbox hb;have n0_:=Up.BB HB hb;have n1_:=Aside0.mk (hbox);have n2_:=Up.gw hg HB;have n3_:=Up.gw hg HB;clear HB;have HB:=n0_;have BK184:=n1_;have GW184:=n2_;have GE184:=n3_;clear n0_ n1_ n2_ n3_ hb hbox hg) | ((with_reducible refine gate_dst (N:=3) rfl ?_);refine Up.bx 3 29 #[.slice A1_0 l1_0.length c1_0,.slice A1_1 l1_1.length c1_1] ?_;intro gb185 hg w8 hbox hb;have n0_:=Up.KB BK184 hb;have n1_:=Aside0.mk (below_step (Up.Bx HB) hb);have n2_:=Aside0.mk (hbox);have n3_:=Up.gw hg HB;have n4_:=Up.gw hg HB;have n5_:=Up.nl hg BK184;have n6_:=Up.ng hg BK184;clear BK184 HB;have BK184:=n0_;have HB:=n1_;have BK185:=n2_;have GW185:=n3_;have GE185:=n4_;have NB184_185:=n5_;have NB185_184:=n6_;clear n0_ n1_ n2_ n3_ n4_ n5_ n6_ hb hbox hg;have hnb9:=NB184_185.out;have hnc9:=NB185_184.out;have hcz10_0:=Up.c0 BK184;have hcz10_1:=Up.c1 BK184;have hfz10_0:=blk_frozen BK184.out 0;have hfz10_1:=blk_frozen BK184.out 1;have hcz11_0:=Up.c0 BK185;have hcz11_1:=Up.c1 BK185;have hfz11_0:=blk_frozen BK185.out 0;have hfz11_1:=blk_frozen BK185.out 1) | ((with_reducible refine gate_callee (f:=14) rfl ?_);refine Up.gl (some 9) Tryd.func14 #[.slice A0_0 l0_0.length c0_0,.slice A1_0 l1_0.length c1_0] ?_;(with_reducible refine (laws_eqMarkS.calls k _ _ l0_0 _ _ l1_0 true _ ?side1 ?side2 ?side3 ?side4 A3.out).mono ?_);(case side1 => exact Up.Cx HR0_0 HB);(case side2 => exact HC0_0.out);(case side3 => exact Up.Cx HR1_0 HB);(case side4 => exact HC1_0.out);rintro e w12 ⟨rfl,hb⟩;refine ⟨_,rfl,?_⟩;have n0_:=Up.KB BK184 hb;have n1_:=Up.KB BK185 hb;have n2_:=Aside0.mk (below_step (Up.Bx HB) hb);clear BK184 BK185 HB;have BK184:=n0_;have BK185:=n1_;have HB:=n2_;clear n0_ n1_ n2_;(try clear hb);(try clear hb2);(try clear hk);(try clear hi);have hcz13_0:=Up.c0 BK184;have hcz13_1:=Up.c1 BK184;have hfz13_0:=blk_frozen BK184.out 0;have hfz13_1:=blk_frozen BK184.out 1;have hcz14_0:=Up.c0 BK185;have hcz14_1:=Up.c1 BK185;have hfz14_0:=blk_frozen BK185.out 0;have hfz14_1:=blk_frozen BK185.out 1) | ((with_reducible refine gate_callee (f:=14) rfl ?_);refine Up.gl (some 15) Tryd.func14 #[.slice A0_1 l0_1.length c0_1,.slice A1_1 l1_1.length c1_1] ?_;(with_reducible refine (laws_eqMarkS.calls k _ _ l0_1 _ _ l1_1 true _ ?side1 ?side2 ?side3 ?side4 A5.out).mono ?_);(case side1 => exact Up.Cx HR0_1 HB);(case side2 => exact HC0_1.out);(case side3 => exact Up.Cx HR1_1 HB);(case side4 => exact HC1_1.out);rintro e w15 ⟨rfl,hb⟩;refine ⟨_,rfl,?_⟩;have n0_:=Up.KB BK184 hb;have n1_:=Up.KB BK185 hb;have n2_:=Aside0.mk (below_step (Up.Bx HB) hb);clear BK184 BK185 HB;have BK184:=n0_;have BK185:=n1_;have HB:=n2_;clear n0_ n1_ n2_;(try clear hb);(try clear hb2);(try clear hk);(try clear hi)))
   go_ret
   exact Up.e1 (Up.Bx HB)
  ·replace c6:=Bool.eq_false_iff.mpr c6
   subst c6
   have H1 : (some false) = some r:=by rw [if_neg (show ¬ (false = true) by decide)] at H;exact H
   clear H
   have H:=H1
   clear H1
   obtain rfl:=Option.some.inj H
   go_enter Tryd.func8,Tryd.ntmps8
   go_wp2_with (first | ((with_reducible refine gate_dst (N:=2) rfl ?_);refine Up.bx 2 29 #[.slice A0_0 l0_0.length c0_0,.slice A0_1 l0_1.length c0_1] ?_;intro gb184 hg w16 hbox hb;have n0_:=Up.BB HB hb;have n1_:=Aside0.mk (hbox);have n2_:=Up.gw hg HB;have n3_:=Up.gw hg HB;clear HB;have HB:=n0_;have BK184:=n1_;have GW184:=n2_;have GE184:=n3_;clear n0_ n1_ n2_ n3_ hb hbox hg) | ((with_reducible refine gate_dst (N:=3) rfl ?_);refine Up.bx 3 29 #[.slice A1_0 l1_0.length c1_0,.slice A1_1 l1_1.length c1_1] ?_;intro gb185 hg w17 hbox hb;have n0_:=Up.KB BK184 hb;have n1_:=Aside0.mk (below_step (Up.Bx HB) hb);have n2_:=Aside0.mk (hbox);have n3_:=Up.gw hg HB;have n4_:=Up.gw hg HB;have n5_:=Up.nl hg BK184;have n6_:=Up.ng hg BK184;clear BK184 HB;have BK184:=n0_;have HB:=n1_;have BK185:=n2_;have GW185:=n3_;have GE185:=n4_;have NB184_185:=n5_;have NB185_184:=n6_;clear n0_ n1_ n2_ n3_ n4_ n5_ n6_ hb hbox hg;have hnb18:=NB184_185.out;have hnc18:=NB185_184.out;have hcz19_0:=Up.c0 BK184;have hcz19_1:=Up.c1 BK184;have hfz19_0:=blk_frozen BK184.out 0;have hfz19_1:=blk_frozen BK184.out 1;have hcz20_0:=Up.c0 BK185;have hcz20_1:=Up.c1 BK185;have hfz20_0:=blk_frozen BK185.out 0;have hfz20_1:=blk_frozen BK185.out 1) | ((with_reducible refine gate_callee (f:=14) rfl ?_);refine Up.gl (some 9) Tryd.func14 #[.slice A0_0 l0_0.length c0_0,.slice A1_0 l1_0.length c1_0] ?_;(with_reducible refine (laws_eqMarkS.calls k _ _ l0_0 _ _ l1_0 true _ ?side1 ?side2 ?side3 ?side4 A3.out).mono ?_);(case side1 => exact Up.Cx HR0_0 HB);(case side2 => exact HC0_0.out);(case side3 => exact Up.Cx HR1_0 HB);(case side4 => exact HC1_0.out);rintro e w21 ⟨rfl,hb⟩;refine ⟨_,rfl,?_⟩;have n0_:=Up.KB BK184 hb;have n1_:=Up.KB BK185 hb;have n2_:=Aside0.mk (below_step (Up.Bx HB) hb);clear BK184 BK185 HB;have BK184:=n0_;have BK185:=n1_;have HB:=n2_;clear n0_ n1_ n2_;(try clear hb);(try clear hb2);(try clear hk);(try clear hi);have hcz22_0:=Up.c0 BK184;have hcz22_1:=Up.c1 BK184;have hfz22_0:=blk_frozen BK184.out 0;have hfz22_1:=blk_frozen BK184.out 1;have hcz23_0:=Up.c0 BK185;have hcz23_1:=Up.c1 BK185;have hfz23_0:=blk_frozen BK185.out 0;have hfz23_1:=blk_frozen BK185.out 1) | ((with_reducible refine gate_callee (f:=14) rfl ?_);refine Up.gl (some 15) Tryd.func14 #[.slice A0_1 l0_1.length c0_1,.slice A1_1 l1_1.length c1_1] ?_;(with_reducible refine (laws_eqMarkS.calls k _ _ l0_1 _ _ l1_1 false _ ?side1 ?side2 ?side3 ?side4 A5.out).mono ?_);(case side1 => exact Up.Cx HR0_1 HB);(case side2 => exact HC0_1.out);(case side3 => exact Up.Cx HR1_1 HB);(case side4 => exact HC1_1.out);rintro e w24 ⟨rfl,hb⟩;refine ⟨_,rfl,?_⟩;have n0_:=Up.KB BK184 hb;have n1_:=Up.KB BK185 hb;have n2_:=Aside0.mk (below_step (Up.Bx HB) hb);clear BK184 BK185 HB;have BK184:=n0_;have BK185:=n1_;have HB:=n2_;clear n0_ n1_ n2_;(try clear hb);(try clear hb2);(try clear hk);(try clear hi)))
   go_ret
   exact Up.e1 (Up.Bx HB)
 ·replace c4:=Bool.eq_false_iff.mpr c4
  subst c4
  have H1 : (some false) = some r:=by rw [if_neg (show ¬ (false = true) by decide)] at H;exact H
  clear H
  have H:=H1
  clear H1
  obtain rfl:=Option.some.inj H
  go_enter Tryd.func8,Tryd.ntmps8
  go_wp2_with (first | ((with_reducible refine gate_dst (N:=2) rfl ?_);refine Up.bx 2 29 #[.slice A0_0 l0_0.length c0_0,.slice A0_1 l0_1.length c0_1] ?_;intro gb184 hg w25 hbox hb;have n0_:=Up.BB HB hb;have n1_:=Aside0.mk (hbox);have n2_:=Up.gw hg HB;have n3_:=Up.gw hg HB;clear HB;have HB:=n0_;have BK184:=n1_;have GW184:=n2_;have GE184:=n3_;clear n0_ n1_ n2_ n3_ hb hbox hg) | ((with_reducible refine gate_dst (N:=3) rfl ?_);refine Up.bx 3 29 #[.slice A1_0 l1_0.length c1_0,.slice A1_1 l1_1.length c1_1] ?_;intro gb185 hg w26 hbox hb;have n0_:=Up.KB BK184 hb;have n1_:=Aside0.mk (below_step (Up.Bx HB) hb);have n2_:=Aside0.mk (hbox);have n3_:=Up.gw hg HB;have n4_:=Up.gw hg HB;have n5_:=Up.nl hg BK184;have n6_:=Up.ng hg BK184;clear BK184 HB;have BK184:=n0_;have HB:=n1_;have BK185:=n2_;have GW185:=n3_;have GE185:=n4_;have NB184_185:=n5_;have NB185_184:=n6_;clear n0_ n1_ n2_ n3_ n4_ n5_ n6_ hb hbox hg;have hnb27:=NB184_185.out;have hnc27:=NB185_184.out;have hcz28_0:=Up.c0 BK184;have hcz28_1:=Up.c1 BK184;have hfz28_0:=blk_frozen BK184.out 0;have hfz28_1:=blk_frozen BK184.out 1;have hcz29_0:=Up.c0 BK185;have hcz29_1:=Up.c1 BK185;have hfz29_0:=blk_frozen BK185.out 0;have hfz29_1:=blk_frozen BK185.out 1) | ((with_reducible refine gate_callee (f:=14) rfl ?_);refine Up.gl (some 9) Tryd.func14 #[.slice A0_0 l0_0.length c0_0,.slice A1_0 l1_0.length c1_0] ?_;(with_reducible refine (laws_eqMarkS.calls k _ _ l0_0 _ _ l1_0 false _ ?side1 ?side2 ?side3 ?side4 A3.out).mono ?_);(case side1 => exact Up.Cx HR0_0 HB);(case side2 => exact HC0_0.out);(case side3 => exact Up.Cx HR1_0 HB);(case side4 => exact HC1_0.out);rintro e w30 ⟨rfl,hb⟩;refine ⟨_,rfl,?_⟩;have n0_:=Up.KB BK184 hb;have n1_:=Up.KB BK185 hb;have n2_:=Aside0.mk (below_step (Up.Bx HB) hb);clear BK184 BK185 HB;have BK184:=n0_;have BK185:=n1_;have HB:=n2_;clear n0_ n1_ n2_;(try clear hb);(try clear hb2);(try clear hk);(try clear hi)))
  go_ret
  exact Up.e1 (Up.Bx HB)

/-! ### laws_FnExactShapeText: function 3 -/
def laws_FnExactShapeText.f (k : Nat) (l0_0 : List (S44)) (l0_1 : List (S44)) : Option (Bool):=(laws_szShape.f k l0_0 l0_1 1048576).bind fun t189 => (if t189 < 0 then (some true) else ((laws_toShape.f k l0_0 l0_1).bind fun bt190 => ((spec_ShapeText.f k bt190.1 bt190.2).bind fun t196 => ((laws_toShape.f k l0_0 l0_1).bind fun bt197 => ((impl_ShapeText.f k bt197.1 bt197.2).bind fun t204 => (if t204.toList = t196.toList then ((laws_toShape.f k l0_0 l0_1).bind fun bt205 => ((laws_eqShape.f k bt197.1 bt197.2 bt205.1 bt205.2).bind fun t211 => (if t211 = true then (some true) else (some false)))) else (some false)))))))
theorem laws_FnExactShapeText.mono : ∀ a0 a1 k,LeO (laws_FnExactShapeText.f k a0 a1) (laws_FnExactShapeText.f (k + 1) a0 a1):=by
 intro a0 a1 k
 unfold laws_FnExactShapeText.f
 repeat' first
   | (with_reducible exact impl_ShapeText.mono _ _ _)
   | (with_reducible exact laws_eqShape.mono _ _ _ _ _)
   | (with_reducible exact laws_szShape.mono _ _ _ _)
   | (with_reducible exact laws_toShape.mono _ _ _)
   | (with_reducible exact spec_ShapeText.mono _ _ _)
   | (with_reducible exact LeO.refl _)
   | (with_reducible exact LeO.none _)
   | (with_reducible refine LeO.ite ?_ ?_)
   | (with_reducible refine LeO.bind ?_ (fun _ => ?_))
   | exact impl_ShapeText.mono _ _ _
   | exact laws_eqShape.mono _ _ _ _ _
   | exact laws_szShape.mono _ _ _ _
   | exact laws_toShape.mono _ _ _
   | exact spec_ShapeText.mono _ _ _
   | exact LeO.none _
   | refine LeO.ite ?_ ?_
   | refine LeO.bind ?_ (fun _ => ?_)
set_option maxHeartbeats 8000000 in
set_option maxRecDepth 100000 in
theorem laws_FnExactShapeText.calls (k : Nat) (A0_0 : Option Addr) (c0_0 : Nat) (l0_0 : List (S44)) (A0_1 : Option Addr) (c0_1 : Nat) (l0_1 : List (S44)) (r : Bool) (w : World) (hT_ : Tab w) (hr0_0 : Kd.C k44 w A0_0 l0_0.length l0_0) (hc0_0 : l0_0.length ≤ c0_0) (hr0_1 : Kd.C k44 w A0_1 l0_1.length l0_1) (hc0_1 : l0_1.length ≤ c0_1) (h : laws_FnExactShapeText.f k l0_0 l0_1 = some r) :
  Calls Tryd.prog 3 #[.agg #[.slice A0_0 l0_0.length c0_0,.slice A0_1 l0_1.length c0_1]] w fun e w' => e = .returned (.bool r) ∧ Below w.heap.size w w':=by
 have hu24:=Tryd.underlying24
 have hu29:=Tryd.underlying29
 have HR0_0:=Aside0.mk hr0_0
 have HC0_0:=Aside0.mk hc0_0
 clear hr0_0 hc0_0
 have HR0_1:=Aside0.mk hr0_1
 have HC0_1:=Aside0.mk hc0_1
 clear hr0_1 hc0_1
 have HB:=Aside0.mk (Below.refl w.heap.size w)
 have H : ((laws_szShape.f k l0_0 l0_1 1048576).bind fun t189 => (if t189 < 0 then (some true) else ((laws_toShape.f k l0_0 l0_1).bind fun bt190 => ((spec_ShapeText.f k bt190.1 bt190.2).bind fun t196 => ((laws_toShape.f k l0_0 l0_1).bind fun bt197 => ((impl_ShapeText.f k bt197.1 bt197.2).bind fun t204 => (if t204.toList = t196.toList then ((laws_toShape.f k l0_0 l0_1).bind fun bt205 => ((laws_eqShape.f k bt197.1 bt197.2 bt205.1 bt205.2).bind fun t211 => (if t211 = true then (some true) else (some false)))) else (some false)))))))) = some r:=h
 clear h
 replace H:=Option.bind_eq_some_iff.mp H
 obtain ⟨t189,A20,H⟩:=H
 replace H : (if t189 < 0 then (some true) else ((laws_toShape.f k l0_0 l0_1).bind fun bt190 => ((spec_ShapeText.f k bt190.1 bt190.2).bind fun t196 => ((laws_toShape.f k l0_0 l0_1).bind fun bt197 => ((impl_ShapeText.f k bt197.1 bt197.2).bind fun t204 => (if t204.toList = t196.toList then ((laws_toShape.f k l0_0 l0_1).bind fun bt205 => ((laws_eqShape.f k bt197.1 bt197.2 bt205.1 bt205.2).bind fun t211 => (if t211 = true then (some true) else (some false)))) else (some false))))))) = some r:=H
 have A2:=Aside0.mk A20
 clear A20
 by_cases c3 : t189 < 0
 ·rw [if_pos c3] at H
  have c3b0 : decide (t189 < 0) = true:=decide_eq_true c3
  clear c3
  obtain rfl:=Option.some.inj H
  go_enter Tryd.func3,Tryd.ntmps3
  go_wp2_with (first | ((with_reducible refine gate_dst (N:=1) rfl ?_);refine Up.bx 1 24 #[.slice A0_0 l0_0.length c0_0,.slice A0_1 l0_1.length c0_1] ?_;intro gb188 hg w4 hbox hb;have n0_:=Up.BB HB hb;have n1_:=Aside0.mk (hbox);have n2_:=Up.gw hg HB;have n3_:=Up.gw hg HB;clear HB;have HB:=n0_;have BK188:=n1_;have GW188:=n2_;have GE188:=n3_;clear n0_ n1_ n2_ n3_ hb hbox hg;have hcz5_0:=Up.c0 BK188;have hcz5_1:=Up.c1 BK188;have hfz5_0:=blk_frozen BK188.out 0;have hfz5_1:=blk_frozen BK188.out 1) | ((with_reducible refine gate_callee (f:=4) rfl ?_);refine Up.gl (some 9) Tryd.func4 #[.agg #[.slice A0_0 l0_0.length c0_0,.slice A0_1 l0_1.length c0_1],.int .i64 1048576] ?_;(with_reducible refine (laws_szShape.calls k _ _ l0_0 _ _ l0_1 1048576 t189 _ ?side1 ?side2 ?side3 ?side4 A2.out).mono ?_);(case side1 => exact Up.Cx HR0_0 HB);(case side2 => exact HC0_0.out);(case side3 => exact Up.Cx HR0_1 HB);(case side4 => exact HC0_1.out);rintro e w6 ⟨rfl,hb⟩;refine ⟨_,rfl,?_⟩;have n0_:=Up.KB BK188 hb;have n1_:=Aside0.mk (below_step (Up.Bx HB) hb);clear BK188 HB;have BK188:=n0_;have HB:=n1_;clear n0_ n1_;(try clear hb);(try clear hb2);(try clear hk);(try clear hi)))
  go_ret
  exact Up.e1 (Up.Bx HB)
 ·rw [if_neg c3] at H
  have c3b0 : decide (t189 < 0) = false:=decide_eq_false c3
  clear c3
  replace H:=Option.bind_eq_some_iff.mp H
  obtain ⟨⟨t190,t193⟩,A70,H⟩:=H
  replace H : ((spec_ShapeText.f k t190 t193).bind fun t196 => ((laws_toShape.f k l0_0 l0_1).bind fun bt197 => ((impl_ShapeText.f k bt197.1 bt197.2).bind fun t204 => (if t204.toList = t196.toList then ((laws_toShape.f k l0_0 l0_1).bind fun bt205 => ((laws_eqShape.f k bt197.1 bt197.2 bt205.1 bt205.2).bind fun t211 => (if t211 = true then (some true) else (some false)))) else (some false))))) = some r:=H
  have A7:=Aside0.mk A70
  clear A70
  replace H:=Option.bind_eq_some_iff.mp H
  obtain ⟨t196,A80,H⟩:=H
  replace H : ((laws_toShape.f k l0_0 l0_1).bind fun bt197 => ((impl_ShapeText.f k bt197.1 bt197.2).bind fun t204 => (if t204.toList = t196.toList then ((laws_toShape.f k l0_0 l0_1).bind fun bt205 => ((laws_eqShape.f k bt197.1 bt197.2 bt205.1 bt205.2).bind fun t211 => (if t211 = true then (some true) else (some false)))) else (some false)))) = some r:=H
  have A8:=Aside0.mk A80
  clear A80
  replace H:=Option.bind_eq_some_iff.mp H
  obtain ⟨⟨t197,t200⟩,A90,H⟩:=H
  replace H : ((impl_ShapeText.f k t197 t200).bind fun t204 => (if t204.toList = t196.toList then ((laws_toShape.f k l0_0 l0_1).bind fun bt205 => ((laws_eqShape.f k t197 t200 bt205.1 bt205.2).bind fun t211 => (if t211 = true then (some true) else (some false)))) else (some false))) = some r:=H
  have A9:=Aside0.mk A90
  clear A90
  replace H:=Option.bind_eq_some_iff.mp H
  obtain ⟨t204,A100,H⟩:=H
  replace H : (if t204.toList = t196.toList then ((laws_toShape.f k l0_0 l0_1).bind fun bt205 => ((laws_eqShape.f k t197 t200 bt205.1 bt205.2).bind fun t211 => (if t211 = true then (some true) else (some false)))) else (some false)) = some r:=H
  have A10:=Aside0.mk A100
  clear A100
  by_cases c11 : t204.toList = t196.toList
  ·rw [if_pos c11] at H
   have c11b0 : (t204.toList == t196.toList) = true:=beq_iff_eq.mpr c11
   have c11b1 : (t204.toList != t196.toList) = false:=bne_eq_false_iff_eq.mpr c11
   clear c11
   replace H:=Option.bind_eq_some_iff.mp H
   obtain ⟨⟨t205,t208⟩,A120,H⟩:=H
   replace H : ((laws_eqShape.f k t197 t200 t205 t208).bind fun t211 => (if t211 = true then (some true) else (some false))) = some r:=H
   have A12:=Aside0.mk A120
   clear A120
   replace H:=Option.bind_eq_some_iff.mp H
   obtain ⟨t211,A130,H⟩:=H
   replace H : (if t211 = true then (some true) else (some false)) = some r:=H
   have A13:=Aside0.mk A130
   clear A130
   by_cases c14 : t211 = true
   ·subst c14
    have H1 : (some true) = some r:=by rw [if_pos rfl] at H;exact H
    clear H
    have H:=H1
    clear H1
    obtain rfl:=Option.some.inj H
    go_enter Tryd.func3,Tryd.ntmps3
    try go_wp2_with (first | ((with_reducible refine gate_dst (N:=1) rfl ?_);refine Up.bx 1 24 #[.slice A0_0 l0_0.length c0_0,.slice A0_1 l0_1.length c0_1] ?_;intro gb188 hg w15 hbox hb;have n0_:=Up.BB HB hb;have n1_:=Aside0.mk (hbox);have n2_:=Up.gw hg HB;have n3_:=Up.gw hg HB;clear HB;have HB:=n0_;have BK188:=n1_;have GW188:=n2_;have GE188:=n3_;clear n0_ n1_ n2_ n3_ hb hbox hg;have hcz16_0:=Up.c0 BK188;have hcz16_1:=Up.c1 BK188;have hfz16_0:=blk_frozen BK188.out 0;have hfz16_1:=blk_frozen BK188.out 1) | ((with_reducible refine gate_callee (f:=4) rfl ?_);refine Up.gl (some 9) Tryd.func4 #[.agg #[.slice A0_0 l0_0.length c0_0,.slice A0_1 l0_1.length c0_1],.int .i64 1048576] ?_;(with_reducible refine (laws_szShape.calls k _ _ l0_0 _ _ l0_1 1048576 t189 _ ?side1 ?side2 ?side3 ?side4 A2.out).mono ?_);(case side1 => exact Up.Cx HR0_0 HB);(case side2 => exact HC0_0.out);(case side3 => exact Up.Cx HR0_1 HB);(case side4 => exact HC0_1.out);rintro e w17 ⟨rfl,hb⟩;refine ⟨_,rfl,?_⟩;have n0_:=Up.KB BK188 hb;have n1_:=Aside0.mk (below_step (Up.Bx HB) hb);clear BK188 HB;have BK188:=n0_;have HB:=n1_;clear n0_ n1_;(try clear hb);(try clear hb2);(try clear hk);(try clear hi);have hcz18_0:=Up.c0 BK188;have hcz18_1:=Up.c1 BK188;have hfz18_0:=blk_frozen BK188.out 0;have hfz18_1:=blk_frozen BK188.out 1) | ((with_reducible refine gate_callee (f:=6) rfl ?_);refine Up.gl (some 13) Tryd.func6 #[.agg #[.slice A0_0 l0_0.length c0_0,.slice A0_1 l0_1.length c0_1]] ?_;(with_reducible refine (laws_toShape.calls k _ _ l0_0 _ _ l0_1 t190 t193 _ ?side1 ?side2 ?side3 ?side4 A7.out).mono ?_);(case side1 => exact Up.Cx HR0_0 HB);(case side2 => exact HC0_0.out);(case side3 => exact Up.Cx HR0_1 HB);(case side4 => exact HC0_1.out);rintro e w19 ⟨v191,v194,rfl,ho0,ho1,hb⟩;refine ⟨_,rfl,?_⟩;have n0_:=Aside0.mk (Kd.S_lower ho0 (below_size (Up.Bx HB)));have n1_:=Aside0.mk (Kd.S_lower ho1 (below_size (Up.Bx HB)));have n2_:=Up.KB BK188 hb;have n3_:=Aside0.mk (below_step (Up.Bx HB) hb);clear BK188 HB;have HO192:=n0_;have HO195:=n1_;have BK188:=n2_;have HB:=n3_;clear n0_ n1_ n2_ n3_;(try clear hb);(try clear hb2);(try clear hk);(try clear hi);(try clear ho0);(try clear ho1);obtain ⟨Ao20,co20,eo20⟩:=Kd.S_slice HO192.out;subst eo20;obtain ⟨Ao21,co21,eo21⟩:=Kd.S_slice HO195.out;subst eo21) | ((with_reducible refine gate_callee (f:=5) rfl ?_);refine Up.gl (some 14) Tryd.func5 #[.agg #[.slice Ao20 t190.length co20,.slice Ao21 t193.length co21]] ?_;(with_reducible refine (spec_ShapeText.calls k _ _ t190 _ _ t193 t196 _ ?side1 ?side2 ?side3 ?side4 A8.out).mono ?_);(case side1 => repeat (first | exact (Kd.S_reads' HO192.out).2.2 | (with_reducible refine Kd.C_alloc ?_ _) | (with_reducible refine Kd.C_drewN ?_ _) | (with_reducible refine Kd.C_drew ?_)));(case side2 => exact (Kd.S_reads' HO192.out).2.1);(case side3 => repeat (first | exact (Kd.S_reads' HO195.out).2.2 | (with_reducible refine Kd.C_alloc ?_ _) | (with_reducible refine Kd.C_drewN ?_ _) | (with_reducible refine Kd.C_drew ?_)));(case side4 => exact (Kd.S_reads' HO195.out).2.1);rintro e w22 ⟨rfl,hb⟩;refine ⟨_,rfl,?_⟩;have n0_:=Up.SB HO192 hb;have n1_:=Up.SB HO195 hb;have n2_:=Up.KB BK188 hb;have n3_:=Aside0.mk (below_step (Up.Bx HB) hb);clear HO192 HO195 BK188 HB;have HO192:=n0_;have HO195:=n1_;have BK188:=n2_;have HB:=n3_;clear n0_ n1_ n2_ n3_;(try clear hb);(try clear hb2);(try clear hk);(try clear hi);have hcz23_0:=Up.c0 BK188;have hcz23_1:=Up.c1 BK188;have hfz23_0:=blk_frozen BK188.out 0;have hfz23_1:=blk_frozen BK188.out 1) | ((with_reducible refine gate_callee (f:=6) rfl ?_);refine Up.gl (some 16) Tryd.func6 #[.agg #[.slice A0_0 l0_0.length c0_0,.slice A0_1 l0_1.length c0_1]] ?_;(with_reducible refine (laws_toShape.calls k _ _ l0_0 _ _ l0_1 t197 t200 _ ?side1 ?side2 ?side3 ?side4 A9.out).mono ?_);(case side1 => exact Up.Cx HR0_0 HB);(case side2 => exact HC0_0.out);(case side3 => exact Up.Cx HR0_1 HB);(case side4 => exact HC0_1.out);rintro e w24 ⟨v198,v201,rfl,ho0,ho1,hb⟩;refine ⟨_,rfl,?_⟩;have n0_:=Aside0.mk (Kd.S_mono (Kd.S_told (Kd.S_told (Kd.S_old (Up.Sup HO192) hb) (Kd.S_base ho0)) (Kd.S_base ho1)) (fun _ h_ => h_.1));have n1_:=Aside0.mk (Kd.S_mono (Kd.S_told (Kd.S_told (Kd.S_old (Up.Sup HO195) hb) (Kd.S_base ho0)) (Kd.S_base ho1)) (fun _ h_ => h_.1));have n2_:=Aside0.mk (Kd.S_lower (Kd.S_new' (Kd.S_new' ho0 (Kd.S_lt (Up.Sup HO192))) (Kd.S_lt (Up.Sup HO195))) (below_size (Up.Bx HB)));have n3_:=Aside0.mk (Kd.S_lower (Kd.S_new' (Kd.S_new' ho1 (Kd.S_lt (Up.Sup HO192))) (Kd.S_lt (Up.Sup HO195))) (below_size (Up.Bx HB)));have n4_:=Up.KB BK188 hb;have n5_:=Aside0.mk (below_step (Up.Bx HB) hb);clear HO192 HO195 BK188 HB;have HO192:=n0_;have HO195:=n1_;have HO199:=n2_;have HO202:=n3_;have BK188:=n4_;have HB:=n5_;clear n0_ n1_ n2_ n3_ n4_ n5_;(try clear hb);(try clear hb2);(try clear hk);(try clear hi);(try clear ho0);(try clear ho1)) | ((with_reducible refine gate_dst (N:=5) rfl ?_);refine Up.bx 5 29 #[.slice none 0 0,.slice none 0 0] ?_;intro gb203 hg w25 hbox hb;have n0_:=Up.SB HO192 hb;have n1_:=Up.SB HO195 hb;have n2_:=Up.SB HO199 hb;have n3_:=Up.SB HO202 hb;have n4_:=Up.KB BK188 hb;have n5_:=Aside0.mk (below_step (Up.Bx HB) hb);have n6_:=Aside0.mk (hbox);have n7_:=Up.gw hg HB;have n8_:=Up.gw hg HB;have n9_:=Up.nl hg BK188;have n10_:=Up.ng hg BK188;clear HO192 HO195 HO199 HO202 BK188 HB;have HO192:=n0_;have HO195:=n1_;have HO199:=n2_;have HO202:=n3_;have BK188:=n4_;have HB:=n5_;have BK203:=n6_;have GW203:=n7_;have GE203:=n8_;have NB188_203:=n9_;have NB203_188:=n10_;clear n0_ n1_ n2_ n3_ n4_ n5_ n6_ n7_ n8_ n9_ n10_ hb hbox hg;obtain ⟨Ao26,co26,eo26⟩:=Kd.S_slice HO199.out;subst eo26;have hnb27:=NB203_188.out;have hnc27:=NB188_203.out;have hcz28_0:=Up.c0 BK203;have hcz28_1:=Up.c1 BK203;have hfz28_0:=blk_frozen BK203.out 0;have hfz28_1:=blk_frozen BK203.out 1;obtain ⟨Ao29,co29,eo29⟩:=Kd.S_slice HO202.out;subst eo29) | ((with_reducible refine gate_callee (f:=7) rfl ?_);refine Up.gl (some 18) Tryd.func7 #[.agg #[.slice Ao26 t197.length co26,.slice Ao29 t200.length co29]] ?_;(with_reducible refine (impl_ShapeText.calls (hT_:=?tab1) k _ _ t197 _ _ t200 t204 _ ?side1 ?side2 ?side3 ?side4 A10.out).mono ?_);(case tab1 => exact hT_.below (Up.Bx HB));(case side1 => refine (Kd.S_reads' (e:=39) (base:=w.heap.size) (ok:=fun k_ => ((some k_ ≠ (.slice Ao29 t200.length co29 : Value).ownBlock ∧ some k_ ≠ (.slice Ao20 t190.length co20 : Value).ownBlock) ∧ some k_ ≠ (.slice Ao21 t193.length co21 : Value).ownBlock)) (n:=t197.length) (c:=co26) ?_).2.2;exact (by (with_reducible repeat (first | apply Kd.S_alloc | apply Kd.S_drewN | apply Kd.S_drew));exact (Kd.S_mono (Kd.S_far (p:=⟨gb203,1,none⟩) (Kd.S_far (p:=⟨gb203,0,none⟩) (Kd.S_types HO199.out BK203.out (by decide)) (fun _ hk => hk.2) (.slice Ao26 t197.length co26)) (fun _ hk => hk.2) (.slice Ao29 t200.length co29)) (fun _ h_ => h_.1))));(case side2 => exact (Kd.S_reads' HO199.out).2.1);(case side3 => refine (Kd.S_reads' (e:=39) (base:=w.heap.size) (ok:=fun k_ => ((some k_ ≠ (.slice Ao26 t197.length co26 : Value).ownBlock ∧ some k_ ≠ (.slice Ao20 t190.length co20 : Value).ownBlock) ∧ some k_ ≠ (.slice Ao21 t193.length co21 : Value).ownBlock)) (n:=t200.length) (c:=co29) ?_).2.2;exact (by (with_reducible repeat (first | apply Kd.S_alloc | apply Kd.S_drewN | apply Kd.S_drew));exact (Kd.S_mono (Kd.S_far (p:=⟨gb203,1,none⟩) (Kd.S_far (p:=⟨gb203,0,none⟩) (Kd.S_types HO202.out BK203.out (by decide)) (fun _ hk => hk.2) (.slice Ao26 t197.length co26)) (fun _ hk => hk.2) (.slice Ao29 t200.length co29)) (fun _ h_ => h_.1))));(case side4 => exact (Kd.S_reads' HO202.out).2.1);rintro e w30 ⟨rfl,hb⟩;refine ⟨_,rfl,?_⟩;have n0_:=Aside0.mk (Kd.S_below (by (with_reducible repeat (first | apply Kd.S_alloc | apply Kd.S_drewN | apply Kd.S_drew));exact (Kd.S_mono (Kd.S_far (p:=⟨gb203,1,none⟩) (Kd.S_far (p:=⟨gb203,0,none⟩) (Kd.S_types HO192.out BK203.out (by decide)) (fun _ hk => hk.2) (.slice Ao26 t197.length co26)) (fun _ hk => hk.2) (.slice Ao29 t200.length co29)) (fun _ h_ => h_.1))) hb);have n1_:=Aside0.mk (Kd.S_below (by (with_reducible repeat (first | apply Kd.S_alloc | apply Kd.S_drewN | apply Kd.S_drew));exact (Kd.S_mono (Kd.S_far (p:=⟨gb203,1,none⟩) (Kd.S_far (p:=⟨gb203,0,none⟩) (Kd.S_types HO195.out BK203.out (by decide)) (fun _ hk => hk.2) (.slice Ao26 t197.length co26)) (fun _ hk => hk.2) (.slice Ao29 t200.length co29)) (fun _ h_ => h_.1))) hb);have n2_:=Aside0.mk (Kd.S_below (by (with_reducible repeat (first | apply Kd.S_alloc | apply Kd.S_drewN | apply Kd.S_drew));exact (Kd.S_mono (Kd.S_far (p:=⟨gb203,1,none⟩) (Kd.S_far (p:=⟨gb203,0,none⟩) (Kd.S_types HO199.out BK203.out (by decide)) (fun _ hk => hk.2) (.slice Ao26 t197.length co26)) (fun _ hk => hk.2) (.slice Ao29 t200.length co29)) (fun _ h_ => h_.1))) hb);have n3_:=Aside0.mk (Kd.S_below (by (with_reducible repeat (first | apply Kd.S_alloc | apply Kd.S_drewN | apply Kd.S_drew));exact (Kd.S_mono (Kd.S_far (p:=⟨gb203,1,none⟩) (Kd.S_far (p:=⟨gb203,0,none⟩) (Kd.S_types HO202.out BK203.out (by decide)) (fun _ hk => hk.2) (.slice Ao26 t197.length co26)) (fun _ hk => hk.2) (.slice Ao29 t200.length co29)) (fun _ h_ => h_.1))) hb);have n4_:=Aside0.mk (blk_below (g:=gb188) (o:=.cells #[.slice A0_0 l0_0.length c0_0,.slice A0_1 l0_1.length c0_1] 24 (0,0)) (Up.Kx BK188) hb);have n5_:=Aside0.mk (blk_below (g:=gb203) (o:=.cells #[.slice Ao26 t197.length co26,.slice Ao29 t200.length co29] 29 (0,0)) (Up.Kx BK203) hb);have n6_:=Aside0.mk (below_step (Up.Bx HB) hb);clear HO192 HO195 HO199 HO202 BK188 BK203 HB;have HO192:=n0_;have HO195:=n1_;have HO199:=n2_;have HO202:=n3_;have BK188:=n4_;have BK203:=n5_;have HB:=n6_;clear n0_ n1_ n2_ n3_ n4_ n5_ n6_;(try clear hb);(try clear hb2);(try clear hk);(try clear hi)))
    have n0_:=Aside0.mk (Kd.S_drew HO192.out)
    have n1_:=Aside0.mk (Kd.S_drew HO195.out)
    have n2_:=Aside0.mk (Kd.S_drew HO199.out)
    have n3_:=Aside0.mk (Kd.S_drew HO202.out)
    have n4_:=Aside0.mk (blk_drew BK188.out)
    have n5_:=Aside0.mk (blk_drew BK203.out)
    have n6_:=Aside0.mk (below_drew1 HB.out)
    clear HO192
    clear HO195
    clear HO199
    clear HO202
    clear BK188
    clear BK203
    clear HB
    have HO192:=n0_
    have HO195:=n1_
    have HO199:=n2_
    have HO202:=n3_
    have BK188:=n4_
    have BK203:=n5_
    have HB:=n6_
    clear n0_ n1_ n2_ n3_ n4_ n5_ n6_
    refine start_ (n:=5) (S:=fun w' => w'.cell? ⟨gb203,0,none⟩ = some (.slice Ao26 t197.length co26) ∧ w'.cell? ⟨gb203,1,none⟩ = some (.slice Ao29 t200.length co29) ∧ w'.cell? ⟨gb188,0,none⟩ = some (.slice A0_0 l0_0.length c0_0) ∧ w'.cell? ⟨gb188,1,none⟩ = some (.slice A0_1 l0_1.length c0_1)) (ds:=[]) #[false,false,false,false,false] (by kernel_rfl) rfl rfl ⟨Up.c0 BK203,Up.c1 BK203,Up.c0 BK188,Up.c1 BK188⟩ (fun hHeld => ?_)
    generalize w30.drew = w31 at HO192 HO195 HO199 HO202 BK188 BK203 HB hHeld ⊢
    refine take_ (i:=0) (N:=some 22) (v:=?_) (a':=?_) #[true,false,false,false,false] rfl rfl (by kernel_rfl) (fun _ _ _ h => h) (Or.inl ⟨by rfl,?_⟩) hHeld ?_ ?_
    rotate_left
    ·rintro w' ⟨s0,s1,s2,s3⟩
     go_simp
     with_reducible rfl
    rotate_left
    ·simp only [Act.put,List.setIfInBounds_toArray,List.set_cons_zero,List.set_cons_succ,i64_w,i32_w]
     rfl
    refine take_ (i:=1) (N:=some 23) (v:=?_) (a':=?_) #[true,true,false,false,false] rfl rfl (by kernel_rfl) (fun _ _ _ h => h) (Or.inl ⟨by rfl,?_⟩) hHeld ?_ ?_
    rotate_left
    ·rintro w' ⟨s0,s1,s2,s3⟩
     go_simp
     with_reducible rfl
    rotate_left
    ·simp only [Act.put,List.setIfInBounds_toArray,List.set_cons_zero,List.set_cons_succ,i64_w,i32_w]
     rfl
    refine one_ (i:=2) (N:=some 24) #[true,true,true,false,false] rfl rfl (by kernel_rfl) (by decide) (fun K hK => ?_)
    refine Up.go Tryd.func6 #[.agg #[.slice A0_0 l0_0.length c0_0,.slice A0_1 l0_1.length c0_1]] ?_
    with_reducible refine (laws_toShape.calls k _ _ l0_0 _ _ l0_1 t205 t208 _ ?side1 ?side2 ?side3 ?side4 A12.out).mono ?_
    (case side1 => exact Up.Cx HR0_0 HB)
    (case side2 => exact HC0_0.out)
    (case side3 => exact Up.Cx HR0_1 HB)
    (case side4 => exact HC0_1.out)
    rintro e w32 ⟨v206,v209,rfl,ho0,ho1,hb⟩
    refine ⟨_,rfl,?_⟩
    have n0_:=Aside0.mk (Kd.S_mono (Kd.S_told (Kd.S_told (Kd.S_old (Up.Sup HO192) hb) (Kd.S_base ho0)) (Kd.S_base ho1)) (fun _ h_ => h_.1))
    have n1_:=Aside0.mk (Kd.S_mono (Kd.S_told (Kd.S_told (Kd.S_old (Up.Sup HO195) hb) (Kd.S_base ho0)) (Kd.S_base ho1)) (fun _ h_ => h_.1))
    have n2_:=Aside0.mk (Kd.S_mono (Kd.S_told (Kd.S_told (Kd.S_old (Up.Sup HO199) hb) (Kd.S_base ho0)) (Kd.S_base ho1)) (fun _ h_ => h_.1))
    have n3_:=Aside0.mk (Kd.S_mono (Kd.S_told (Kd.S_told (Kd.S_old (Up.Sup HO202) hb) (Kd.S_base ho0)) (Kd.S_base ho1)) (fun _ h_ => h_.1))
    have n4_:=Aside0.mk (Kd.S_lower (Kd.S_new' (Kd.S_new' (Kd.S_new' (Kd.S_new' ho0 (Kd.S_lt (Up.Sup HO192))) (Kd.S_lt (Up.Sup HO195))) (Kd.S_lt (Up.Sup HO199))) (Kd.S_lt (Up.Sup HO202))) (below_size (Up.Bx HB)))
    have n5_:=Aside0.mk (Kd.S_lower (Kd.S_new' (Kd.S_new' (Kd.S_new' (Kd.S_new' ho1 (Kd.S_lt (Up.Sup HO192))) (Kd.S_lt (Up.Sup HO195))) (Kd.S_lt (Up.Sup HO199))) (Kd.S_lt (Up.Sup HO202))) (below_size (Up.Bx HB)))
    have n6_:=Up.KB BK188 hb
    have n7_:=Up.KB BK203 hb
    have n8_:=Aside0.mk (below_step (Up.Bx HB) hb)
    clear HO192
    clear HO195
    clear HO199
    clear HO202
    clear BK188
    clear BK203
    clear HB
    have HO192:=n0_
    have HO195:=n1_
    have HO199:=n2_
    have HO202:=n3_
    have HO207:=n4_
    have HO210:=n5_
    have BK188:=n6_
    have BK203:=n7_
    have HB:=n8_
    clear n0_ n1_ n2_ n3_ n4_ n5_ n6_ n7_ n8_
    (try clear hb)
    (try clear hb2)
    (try clear hk)
    (try clear hi)
    (try clear ho0)
    (try clear ho1)
    obtain ⟨Ao33,co33,eo33⟩:=Kd.S_slice HO207.out
    (first | subst eo33 | (injection eo33 with f1_ f2_ f3_;have f4_:=f1_.symm;have f5_:=f3_.symm;clear f1_ f2_ f3_;subst f4_;subst f5_))
    obtain ⟨Ao34,co34,eo34⟩:=Kd.S_slice HO210.out
    (first | subst eo34 | (injection eo34 with f1_ f2_ f3_;have f4_:=f1_.symm;have f5_:=f3_.symm;clear f1_ f2_ f3_;subst f4_;subst f5_))
    refine hK.out _ _ ⟨Up.c0 BK203,Up.c1 BK203,Up.c0 BK188,Up.c1 BK188⟩ (fun hHeld => ?_)
    clear hK K
    refine Up.nm 24 ?_
    refine one_ (i:=3) (N:=some 25) #[true,true,true,true,false] rfl rfl (by kernel_rfl) (by decide) (fun K hK => ?_)
    refine Up.go Tryd.func8 #[.agg #[.slice Ao26 t197.length co26,.slice Ao29 t200.length co29],.agg #[.slice Ao33 t205.length co33,.slice Ao34 t208.length co34]] ?_
    with_reducible refine (laws_eqShape.calls k _ _ t197 _ _ t200 _ _ t205 _ _ t208 true _ ?side1 ?side2 ?side3 ?side4 ?side5 ?side6 ?side7 ?side8 A13.out).mono ?_
    (case side1 => repeat (first | exact (Kd.S_reads' HO199.out).2.2 | (with_reducible refine Kd.C_alloc ?_ _) | (with_reducible refine Kd.C_drewN ?_ _) | (with_reducible refine Kd.C_drew ?_)))
    (case side2 => exact (Kd.S_reads' HO199.out).2.1)
    (case side3 => repeat (first | exact (Kd.S_reads' HO202.out).2.2 | (with_reducible refine Kd.C_alloc ?_ _) | (with_reducible refine Kd.C_drewN ?_ _) | (with_reducible refine Kd.C_drew ?_)))
    (case side4 => exact (Kd.S_reads' HO202.out).2.1)
    (case side5 => repeat (first | exact (Kd.S_reads' HO207.out).2.2 | (with_reducible refine Kd.C_alloc ?_ _) | (with_reducible refine Kd.C_drewN ?_ _) | (with_reducible refine Kd.C_drew ?_)))
    (case side6 => exact (Kd.S_reads' HO207.out).2.1)
    (case side7 => repeat (first | exact (Kd.S_reads' HO210.out).2.2 | (with_reducible refine Kd.C_alloc ?_ _) | (with_reducible refine Kd.C_drewN ?_ _) | (with_reducible refine Kd.C_drew ?_)))
    (case side8 => exact (Kd.S_reads' HO210.out).2.1)
    rintro e w35 ⟨rfl,hb⟩
    refine ⟨_,rfl,?_⟩
    have n0_:=Up.SB HO192 hb
    have n1_:=Up.SB HO195 hb
    have n2_:=Up.SB HO199 hb
    have n3_:=Up.SB HO202 hb
    have n4_:=Up.SB HO207 hb
    have n5_:=Up.SB HO210 hb
    have n6_:=Up.KB BK188 hb
    have n7_:=Up.KB BK203 hb
    have n8_:=Aside0.mk (below_step (Up.Bx HB) hb)
    clear HO192
    clear HO195
    clear HO199
    clear HO202
    clear HO207
    clear HO210
    clear BK188
    clear BK203
    clear HB
    have HO192:=n0_
    have HO195:=n1_
    have HO199:=n2_
    have HO202:=n3_
    have HO207:=n4_
    have HO210:=n5_
    have BK188:=n6_
    have BK203:=n7_
    have HB:=n8_
    clear n0_ n1_ n2_ n3_ n4_ n5_ n6_ n7_ n8_
    (try clear hb)
    (try clear hb2)
    (try clear hk)
    (try clear hi)
    refine hK.out _ _ ⟨Up.c0 BK203,Up.c1 BK203,Up.c0 BK188,Up.c1 BK188⟩ (fun hHeld => ?_)
    clear hK K
    refine Up.nm 25 ?_
    refine Up.pn 4 (some 26) ?_
    refine done_ (by kernel_rfl) ?_
    try go_wp2
    go_ret
    exact Up.e1 (Up.Bx HB)
   ·replace c14:=Bool.eq_false_iff.mpr c14
    subst c14
    have H1 : (some false) = some r:=by rw [if_neg (show ¬ (false = true) by decide)] at H;exact H
    clear H
    have H:=H1
    clear H1
    obtain rfl:=Option.some.inj H
    go_enter Tryd.func3,Tryd.ntmps3
    try go_wp2_with (first | ((with_reducible refine gate_dst (N:=1) rfl ?_);refine Up.bx 1 24 #[.slice A0_0 l0_0.length c0_0,.slice A0_1 l0_1.length c0_1] ?_;intro gb188 hg w36 hbox hb;have n0_:=Up.BB HB hb;have n1_:=Aside0.mk (hbox);have n2_:=Up.gw hg HB;have n3_:=Up.gw hg HB;clear HB;have HB:=n0_;have BK188:=n1_;have GW188:=n2_;have GE188:=n3_;clear n0_ n1_ n2_ n3_ hb hbox hg;have hcz37_0:=Up.c0 BK188;have hcz37_1:=Up.c1 BK188;have hfz37_0:=blk_frozen BK188.out 0;have hfz37_1:=blk_frozen BK188.out 1) | ((with_reducible refine gate_callee (f:=4) rfl ?_);refine Up.gl (some 9) Tryd.func4 #[.agg #[.slice A0_0 l0_0.length c0_0,.slice A0_1 l0_1.length c0_1],.int .i64 1048576] ?_;(with_reducible refine (laws_szShape.calls k _ _ l0_0 _ _ l0_1 1048576 t189 _ ?side1 ?side2 ?side3 ?side4 A2.out).mono ?_);(case side1 => exact Up.Cx HR0_0 HB);(case side2 => exact HC0_0.out);(case side3 => exact Up.Cx HR0_1 HB);(case side4 => exact HC0_1.out);rintro e w38 ⟨rfl,hb⟩;refine ⟨_,rfl,?_⟩;have n0_:=Up.KB BK188 hb;have n1_:=Aside0.mk (below_step (Up.Bx HB) hb);clear BK188 HB;have BK188:=n0_;have HB:=n1_;clear n0_ n1_;(try clear hb);(try clear hb2);(try clear hk);(try clear hi);have hcz39_0:=Up.c0 BK188;have hcz39_1:=Up.c1 BK188;have hfz39_0:=blk_frozen BK188.out 0;have hfz39_1:=blk_frozen BK188.out 1) | ((with_reducible refine gate_callee (f:=6) rfl ?_);refine Up.gl (some 13) Tryd.func6 #[.agg #[.slice A0_0 l0_0.length c0_0,.slice A0_1 l0_1.length c0_1]] ?_;(with_reducible refine (laws_toShape.calls k _ _ l0_0 _ _ l0_1 t190 t193 _ ?side1 ?side2 ?side3 ?side4 A7.out).mono ?_);(case side1 => exact Up.Cx HR0_0 HB);(case side2 => exact HC0_0.out);(case side3 => exact Up.Cx HR0_1 HB);(case side4 => exact HC0_1.out);rintro e w40 ⟨v191,v194,rfl,ho0,ho1,hb⟩;refine ⟨_,rfl,?_⟩;have n0_:=Aside0.mk (Kd.S_lower ho0 (below_size (Up.Bx HB)));have n1_:=Aside0.mk (Kd.S_lower ho1 (below_size (Up.Bx HB)));have n2_:=Up.KB BK188 hb;have n3_:=Aside0.mk (below_step (Up.Bx HB) hb);clear BK188 HB;have HO192:=n0_;have HO195:=n1_;have BK188:=n2_;have HB:=n3_;clear n0_ n1_ n2_ n3_;(try clear hb);(try clear hb2);(try clear hk);(try clear hi);(try clear ho0);(try clear ho1);obtain ⟨Ao41,co41,eo41⟩:=Kd.S_slice HO192.out;subst eo41;obtain ⟨Ao42,co42,eo42⟩:=Kd.S_slice HO195.out;subst eo42) | ((with_reducible refine gate_callee (f:=5) rfl ?_);refine Up.gl (some 14) Tryd.func5 #[.agg #[.slice Ao41 t190.length co41,.slice Ao42 t193.length co42]] ?_;(with_reducible refine (spec_ShapeText.calls k _ _ t190 _ _ t193 t196 _ ?side1 ?side2 ?side3 ?side4 A8.out).mono ?_);(case side1 => repeat (first | exact (Kd.S_reads' HO192.out).2.2 | (with_reducible refine Kd.C_alloc ?_ _) | (with_reducible refine Kd.C_drewN ?_ _) | (with_reducible refine Kd.C_drew ?_)));(case side2 => exact (Kd.S_reads' HO192.out).2.1);(case side3 => repeat (first | exact (Kd.S_reads' HO195.out).2.2 | (with_reducible refine Kd.C_alloc ?_ _) | (with_reducible refine Kd.C_drewN ?_ _) | (with_reducible refine Kd.C_drew ?_)));(case side4 => exact (Kd.S_reads' HO195.out).2.1);rintro e w43 ⟨rfl,hb⟩;refine ⟨_,rfl,?_⟩;have n0_:=Up.SB HO192 hb;have n1_:=Up.SB HO195 hb;have n2_:=Up.KB BK188 hb;have n3_:=Aside0.mk (below_step (Up.Bx HB) hb);clear HO192 HO195 BK188 HB;have HO192:=n0_;have HO195:=n1_;have BK188:=n2_;have HB:=n3_;clear n0_ n1_ n2_ n3_;(try clear hb);(try clear hb2);(try clear hk);(try clear hi);have hcz44_0:=Up.c0 BK188;have hcz44_1:=Up.c1 BK188;have hfz44_0:=blk_frozen BK188.out 0;have hfz44_1:=blk_frozen BK188.out 1) | ((with_reducible refine gate_callee (f:=6) rfl ?_);refine Up.gl (some 16) Tryd.func6 #[.agg #[.slice A0_0 l0_0.length c0_0,.slice A0_1 l0_1.length c0_1]] ?_;(with_reducible refine (laws_toShape.calls k _ _ l0_0 _ _ l0_1 t197 t200 _ ?side1 ?side2 ?side3 ?side4 A9.out).mono ?_);(case side1 => exact Up.Cx HR0_0 HB);(case side2 => exact HC0_0.out);(case side3 => exact Up.Cx HR0_1 HB);(case side4 => exact HC0_1.out);rintro e w45 ⟨v198,v201,rfl,ho0,ho1,hb⟩;refine ⟨_,rfl,?_⟩;have n0_:=Aside0.mk (Kd.S_mono (Kd.S_told (Kd.S_told (Kd.S_old (Up.Sup HO192) hb) (Kd.S_base ho0)) (Kd.S_base ho1)) (fun _ h_ => h_.1));have n1_:=Aside0.mk (Kd.S_mono (Kd.S_told (Kd.S_told (Kd.S_old (Up.Sup HO195) hb) (Kd.S_base ho0)) (Kd.S_base ho1)) (fun _ h_ => h_.1));have n2_:=Aside0.mk (Kd.S_lower (Kd.S_new' (Kd.S_new' ho0 (Kd.S_lt (Up.Sup HO192))) (Kd.S_lt (Up.Sup HO195))) (below_size (Up.Bx HB)));have n3_:=Aside0.mk (Kd.S_lower (Kd.S_new' (Kd.S_new' ho1 (Kd.S_lt (Up.Sup HO192))) (Kd.S_lt (Up.Sup HO195))) (below_size (Up.Bx HB)));have n4_:=Up.KB BK188 hb;have n5_:=Aside0.mk (below_step (Up.Bx HB) hb);clear HO192 HO195 BK188 HB;have HO192:=n0_;have HO195:=n1_;have HO199:=n2_;have HO202:=n3_;have BK188:=n4_;have HB:=n5_;clear n0_ n1_ n2_ n3_ n4_ n5_;(try clear hb);(try clear hb2);(try clear hk);(try clear hi);(try clear ho0);(try clear ho1)) | ((with_reducible refine gate_dst (N:=5) rfl ?_);refine Up.bx 5 29 #[.slice none 0 0,.slice none 0 0] ?_;intro gb203 hg w46 hbox hb;have n0_:=Up.SB HO192 hb;have n1_:=Up.SB HO195 hb;have n2_:=Up.SB HO199 hb;have n3_:=Up.SB HO202 hb;have n4_:=Up.KB BK188 hb;have n5_:=Aside0.mk (below_step (Up.Bx HB) hb);have n6_:=Aside0.mk (hbox);have n7_:=Up.gw hg HB;have n8_:=Up.gw hg HB;have n9_:=Up.nl hg BK188;have n10_:=Up.ng hg BK188;clear HO192 HO195 HO199 HO202 BK188 HB;have HO192:=n0_;have HO195:=n1_;have HO199:=n2_;have HO202:=n3_;have BK188:=n4_;have HB:=n5_;have BK203:=n6_;have GW203:=n7_;have GE203:=n8_;have NB188_203:=n9_;have NB203_188:=n10_;clear n0_ n1_ n2_ n3_ n4_ n5_ n6_ n7_ n8_ n9_ n10_ hb hbox hg;obtain ⟨Ao47,co47,eo47⟩:=Kd.S_slice HO199.out;subst eo47;have hnb48:=NB203_188.out;have hnc48:=NB188_203.out;have hcz49_0:=Up.c0 BK203;have hcz49_1:=Up.c1 BK203;have hfz49_0:=blk_frozen BK203.out 0;have hfz49_1:=blk_frozen BK203.out 1;obtain ⟨Ao50,co50,eo50⟩:=Kd.S_slice HO202.out;subst eo50) | ((with_reducible refine gate_callee (f:=7) rfl ?_);refine Up.gl (some 18) Tryd.func7 #[.agg #[.slice Ao47 t197.length co47,.slice Ao50 t200.length co50]] ?_;(with_reducible refine (impl_ShapeText.calls (hT_:=?tab1) k _ _ t197 _ _ t200 t204 _ ?side1 ?side2 ?side3 ?side4 A10.out).mono ?_);(case tab1 => exact hT_.below (Up.Bx HB));(case side1 => refine (Kd.S_reads' (e:=39) (base:=w.heap.size) (ok:=fun k_ => ((some k_ ≠ (.slice Ao50 t200.length co50 : Value).ownBlock ∧ some k_ ≠ (.slice Ao41 t190.length co41 : Value).ownBlock) ∧ some k_ ≠ (.slice Ao42 t193.length co42 : Value).ownBlock)) (n:=t197.length) (c:=co47) ?_).2.2;exact (by (with_reducible repeat (first | apply Kd.S_alloc | apply Kd.S_drewN | apply Kd.S_drew));exact (Kd.S_mono (Kd.S_far (p:=⟨gb203,1,none⟩) (Kd.S_far (p:=⟨gb203,0,none⟩) (Kd.S_types HO199.out BK203.out (by decide)) (fun _ hk => hk.2) (.slice Ao47 t197.length co47)) (fun _ hk => hk.2) (.slice Ao50 t200.length co50)) (fun _ h_ => h_.1))));(case side2 => exact (Kd.S_reads' HO199.out).2.1);(case side3 => refine (Kd.S_reads' (e:=39) (base:=w.heap.size) (ok:=fun k_ => ((some k_ ≠ (.slice Ao47 t197.length co47 : Value).ownBlock ∧ some k_ ≠ (.slice Ao41 t190.length co41 : Value).ownBlock) ∧ some k_ ≠ (.slice Ao42 t193.length co42 : Value).ownBlock)) (n:=t200.length) (c:=co50) ?_).2.2;exact (by (with_reducible repeat (first | apply Kd.S_alloc | apply Kd.S_drewN | apply Kd.S_drew));exact (Kd.S_mono (Kd.S_far (p:=⟨gb203,1,none⟩) (Kd.S_far (p:=⟨gb203,0,none⟩) (Kd.S_types HO202.out BK203.out (by decide)) (fun _ hk => hk.2) (.slice Ao47 t197.length co47)) (fun _ hk => hk.2) (.slice Ao50 t200.length co50)) (fun _ h_ => h_.1))));(case side4 => exact (Kd.S_reads' HO202.out).2.1);rintro e w51 ⟨rfl,hb⟩;refine ⟨_,rfl,?_⟩;have n0_:=Aside0.mk (Kd.S_below (by (with_reducible repeat (first | apply Kd.S_alloc | apply Kd.S_drewN | apply Kd.S_drew));exact (Kd.S_mono (Kd.S_far (p:=⟨gb203,1,none⟩) (Kd.S_far (p:=⟨gb203,0,none⟩) (Kd.S_types HO192.out BK203.out (by decide)) (fun _ hk => hk.2) (.slice Ao47 t197.length co47)) (fun _ hk => hk.2) (.slice Ao50 t200.length co50)) (fun _ h_ => h_.1))) hb);have n1_:=Aside0.mk (Kd.S_below (by (with_reducible repeat (first | apply Kd.S_alloc | apply Kd.S_drewN | apply Kd.S_drew));exact (Kd.S_mono (Kd.S_far (p:=⟨gb203,1,none⟩) (Kd.S_far (p:=⟨gb203,0,none⟩) (Kd.S_types HO195.out BK203.out (by decide)) (fun _ hk => hk.2) (.slice Ao47 t197.length co47)) (fun _ hk => hk.2) (.slice Ao50 t200.length co50)) (fun _ h_ => h_.1))) hb);have n2_:=Aside0.mk (Kd.S_below (by (with_reducible repeat (first | apply Kd.S_alloc | apply Kd.S_drewN | apply Kd.S_drew));exact (Kd.S_mono (Kd.S_far (p:=⟨gb203,1,none⟩) (Kd.S_far (p:=⟨gb203,0,none⟩) (Kd.S_types HO199.out BK203.out (by decide)) (fun _ hk => hk.2) (.slice Ao47 t197.length co47)) (fun _ hk => hk.2) (.slice Ao50 t200.length co50)) (fun _ h_ => h_.1))) hb);have n3_:=Aside0.mk (Kd.S_below (by (with_reducible repeat (first | apply Kd.S_alloc | apply Kd.S_drewN | apply Kd.S_drew));exact (Kd.S_mono (Kd.S_far (p:=⟨gb203,1,none⟩) (Kd.S_far (p:=⟨gb203,0,none⟩) (Kd.S_types HO202.out BK203.out (by decide)) (fun _ hk => hk.2) (.slice Ao47 t197.length co47)) (fun _ hk => hk.2) (.slice Ao50 t200.length co50)) (fun _ h_ => h_.1))) hb);have n4_:=Aside0.mk (blk_below (g:=gb188) (o:=.cells #[.slice A0_0 l0_0.length c0_0,.slice A0_1 l0_1.length c0_1] 24 (0,0)) (Up.Kx BK188) hb);have n5_:=Aside0.mk (blk_below (g:=gb203) (o:=.cells #[.slice Ao47 t197.length co47,.slice Ao50 t200.length co50] 29 (0,0)) (Up.Kx BK203) hb);have n6_:=Aside0.mk (below_step (Up.Bx HB) hb);clear HO192 HO195 HO199 HO202 BK188 BK203 HB;have HO192:=n0_;have HO195:=n1_;have HO199:=n2_;have HO202:=n3_;have BK188:=n4_;have BK203:=n5_;have HB:=n6_;clear n0_ n1_ n2_ n3_ n4_ n5_ n6_;(try clear hb);(try clear hb2);(try clear hk);(try clear hi)))
    have n0_:=Aside0.mk (Kd.S_drew HO192.out)
    have n1_:=Aside0.mk (Kd.S_drew HO195.out)
    have n2_:=Aside0.mk (Kd.S_drew HO199.out)
    have n3_:=Aside0.mk (Kd.S_drew HO202.out)
    have n4_:=Aside0.mk (blk_drew BK188.out)
    have n5_:=Aside0.mk (blk_drew BK203.out)
    have n6_:=Aside0.mk (below_drew1 HB.out)
    clear HO192
    clear HO195
    clear HO199
    clear HO202
    clear BK188
    clear BK203
    clear HB
    have HO192:=n0_
    have HO195:=n1_
    have HO199:=n2_
    have HO202:=n3_
    have BK188:=n4_
    have BK203:=n5_
    have HB:=n6_
    clear n0_ n1_ n2_ n3_ n4_ n5_ n6_
    refine start_ (n:=5) (S:=fun w' => w'.cell? ⟨gb203,0,none⟩ = some (.slice Ao47 t197.length co47) ∧ w'.cell? ⟨gb203,1,none⟩ = some (.slice Ao50 t200.length co50) ∧ w'.cell? ⟨gb188,0,none⟩ = some (.slice A0_0 l0_0.length c0_0) ∧ w'.cell? ⟨gb188,1,none⟩ = some (.slice A0_1 l0_1.length c0_1)) (ds:=[]) #[false,false,false,false,false] (by kernel_rfl) rfl rfl ⟨Up.c0 BK203,Up.c1 BK203,Up.c0 BK188,Up.c1 BK188⟩ (fun hHeld => ?_)
    generalize w51.drew = w52 at HO192 HO195 HO199 HO202 BK188 BK203 HB hHeld ⊢
    refine take_ (i:=0) (N:=some 22) (v:=?_) (a':=?_) #[true,false,false,false,false] rfl rfl (by kernel_rfl) (fun _ _ _ h => h) (Or.inl ⟨by rfl,?_⟩) hHeld ?_ ?_
    rotate_left
    ·rintro w' ⟨s0,s1,s2,s3⟩
     go_simp
     with_reducible rfl
    rotate_left
    ·simp only [Act.put,List.setIfInBounds_toArray,List.set_cons_zero,List.set_cons_succ,i64_w,i32_w]
     rfl
    refine take_ (i:=1) (N:=some 23) (v:=?_) (a':=?_) #[true,true,false,false,false] rfl rfl (by kernel_rfl) (fun _ _ _ h => h) (Or.inl ⟨by rfl,?_⟩) hHeld ?_ ?_
    rotate_left
    ·rintro w' ⟨s0,s1,s2,s3⟩
     go_simp
     with_reducible rfl
    rotate_left
    ·simp only [Act.put,List.setIfInBounds_toArray,List.set_cons_zero,List.set_cons_succ,i64_w,i32_w]
     rfl
    refine one_ (i:=2) (N:=some 24) #[true,true,true,false,false] rfl rfl (by kernel_rfl) (by decide) (fun K hK => ?_)
    refine Up.go Tryd.func6 #[.agg #[.slice A0_0 l0_0.length c0_0,.slice A0_1 l0_1.length c0_1]] ?_
    with_reducible refine (laws_toShape.calls k _ _ l0_0 _ _ l0_1 t205 t208 _ ?side1 ?side2 ?side3 ?side4 A12.out).mono ?_
    (case side1 => exact Up.Cx HR0_0 HB)
    (case side2 => exact HC0_0.out)
    (case side3 => exact Up.Cx HR0_1 HB)
    (case side4 => exact HC0_1.out)
    rintro e w53 ⟨v206,v209,rfl,ho0,ho1,hb⟩
    refine ⟨_,rfl,?_⟩
    have n0_:=Aside0.mk (Kd.S_mono (Kd.S_told (Kd.S_told (Kd.S_old (Up.Sup HO192) hb) (Kd.S_base ho0)) (Kd.S_base ho1)) (fun _ h_ => h_.1))
    have n1_:=Aside0.mk (Kd.S_mono (Kd.S_told (Kd.S_told (Kd.S_old (Up.Sup HO195) hb) (Kd.S_base ho0)) (Kd.S_base ho1)) (fun _ h_ => h_.1))
    have n2_:=Aside0.mk (Kd.S_mono (Kd.S_told (Kd.S_told (Kd.S_old (Up.Sup HO199) hb) (Kd.S_base ho0)) (Kd.S_base ho1)) (fun _ h_ => h_.1))
    have n3_:=Aside0.mk (Kd.S_mono (Kd.S_told (Kd.S_told (Kd.S_old (Up.Sup HO202) hb) (Kd.S_base ho0)) (Kd.S_base ho1)) (fun _ h_ => h_.1))
    have n4_:=Aside0.mk (Kd.S_lower (Kd.S_new' (Kd.S_new' (Kd.S_new' (Kd.S_new' ho0 (Kd.S_lt (Up.Sup HO192))) (Kd.S_lt (Up.Sup HO195))) (Kd.S_lt (Up.Sup HO199))) (Kd.S_lt (Up.Sup HO202))) (below_size (Up.Bx HB)))
    have n5_:=Aside0.mk (Kd.S_lower (Kd.S_new' (Kd.S_new' (Kd.S_new' (Kd.S_new' ho1 (Kd.S_lt (Up.Sup HO192))) (Kd.S_lt (Up.Sup HO195))) (Kd.S_lt (Up.Sup HO199))) (Kd.S_lt (Up.Sup HO202))) (below_size (Up.Bx HB)))
    have n6_:=Up.KB BK188 hb
    have n7_:=Up.KB BK203 hb
    have n8_:=Aside0.mk (below_step (Up.Bx HB) hb)
    clear HO192
    clear HO195
    clear HO199
    clear HO202
    clear BK188
    clear BK203
    clear HB
    have HO192:=n0_
    have HO195:=n1_
    have HO199:=n2_
    have HO202:=n3_
    have HO207:=n4_
    have HO210:=n5_
    have BK188:=n6_
    have BK203:=n7_
    have HB:=n8_
    clear n0_ n1_ n2_ n3_ n4_ n5_ n6_ n7_ n8_
    (try clear hb)
    (try clear hb2)
    (try clear hk)
    (try clear hi)
    (try clear ho0)
    (try clear ho1)
    obtain ⟨Ao54,co54,eo54⟩:=Kd.S_slice HO207.out
    (first | subst eo54 | (injection eo54 with f1_ f2_ f3_;have f4_:=f1_.symm;have f5_:=f3_.symm;clear f1_ f2_ f3_;subst f4_;subst f5_))
    obtain ⟨Ao55,co55,eo55⟩:=Kd.S_slice HO210.out
    (first | subst eo55 | (injection eo55 with f1_ f2_ f3_;have f4_:=f1_.symm;have f5_:=f3_.symm;clear f1_ f2_ f3_;subst f4_;subst f5_))
    refine hK.out _ _ ⟨Up.c0 BK203,Up.c1 BK203,Up.c0 BK188,Up.c1 BK188⟩ (fun hHeld => ?_)
    clear hK K
    refine Up.nm 24 ?_
    refine one_ (i:=3) (N:=some 25) #[true,true,true,true,false] rfl rfl (by kernel_rfl) (by decide) (fun K hK => ?_)
    refine Up.go Tryd.func8 #[.agg #[.slice Ao47 t197.length co47,.slice Ao50 t200.length co50],.agg #[.slice Ao54 t205.length co54,.slice Ao55 t208.length co55]] ?_
    with_reducible refine (laws_eqShape.calls k _ _ t197 _ _ t200 _ _ t205 _ _ t208 false _ ?side1 ?side2 ?side3 ?side4 ?side5 ?side6 ?side7 ?side8 A13.out).mono ?_
    (case side1 => repeat (first | exact (Kd.S_reads' HO199.out).2.2 | (with_reducible refine Kd.C_alloc ?_ _) | (with_reducible refine Kd.C_drewN ?_ _) | (with_reducible refine Kd.C_drew ?_)))
    (case side2 => exact (Kd.S_reads' HO199.out).2.1)
    (case side3 => repeat (first | exact (Kd.S_reads' HO202.out).2.2 | (with_reducible refine Kd.C_alloc ?_ _) | (with_reducible refine Kd.C_drewN ?_ _) | (with_reducible refine Kd.C_drew ?_)))
    (case side4 => exact (Kd.S_reads' HO202.out).2.1)
    (case side5 => repeat (first | exact (Kd.S_reads' HO207.out).2.2 | (with_reducible refine Kd.C_alloc ?_ _) | (with_reducible refine Kd.C_drewN ?_ _) | (with_reducible refine Kd.C_drew ?_)))
    (case side6 => exact (Kd.S_reads' HO207.out).2.1)
    (case side7 => repeat (first | exact (Kd.S_reads' HO210.out).2.2 | (with_reducible refine Kd.C_alloc ?_ _) | (with_reducible refine Kd.C_drewN ?_ _) | (with_reducible refine Kd.C_drew ?_)))
    (case side8 => exact (Kd.S_reads' HO210.out).2.1)
    rintro e w56 ⟨rfl,hb⟩
    refine ⟨_,rfl,?_⟩
    have n0_:=Up.SB HO192 hb
    have n1_:=Up.SB HO195 hb
    have n2_:=Up.SB HO199 hb
    have n3_:=Up.SB HO202 hb
    have n4_:=Up.SB HO207 hb
    have n5_:=Up.SB HO210 hb
    have n6_:=Up.KB BK188 hb
    have n7_:=Up.KB BK203 hb
    have n8_:=Aside0.mk (below_step (Up.Bx HB) hb)
    clear HO192
    clear HO195
    clear HO199
    clear HO202
    clear HO207
    clear HO210
    clear BK188
    clear BK203
    clear HB
    have HO192:=n0_
    have HO195:=n1_
    have HO199:=n2_
    have HO202:=n3_
    have HO207:=n4_
    have HO210:=n5_
    have BK188:=n6_
    have BK203:=n7_
    have HB:=n8_
    clear n0_ n1_ n2_ n3_ n4_ n5_ n6_ n7_ n8_
    (try clear hb)
    (try clear hb2)
    (try clear hk)
    (try clear hi)
    refine hK.out _ _ ⟨Up.c0 BK203,Up.c1 BK203,Up.c0 BK188,Up.c1 BK188⟩ (fun hHeld => ?_)
    clear hK K
    refine Up.nm 25 ?_
    refine Up.pn 4 (some 26) ?_
    refine done_ (by kernel_rfl) ?_
    try go_wp2
    go_ret
    exact Up.e1 (Up.Bx HB)
  ·rw [if_neg c11] at H
   have c11b0 : (t204.toList == t196.toList) = false:=beq_eq_false_iff_ne.mpr c11
   have c11b1 : (t204.toList != t196.toList) = true:=bne_iff_ne.mpr c11
   obtain rfl:=Option.some.inj H
   go_enter Tryd.func3,Tryd.ntmps3
   go_wp2_with (first | ((with_reducible refine gate_dst (N:=1) rfl ?_);refine Up.bx 1 24 #[.slice A0_0 l0_0.length c0_0,.slice A0_1 l0_1.length c0_1] ?_;intro gb188 hg w57 hbox hb;have n0_:=Up.BB HB hb;have n1_:=Aside0.mk (hbox);have n2_:=Up.gw hg HB;have n3_:=Up.gw hg HB;clear HB;have HB:=n0_;have BK188:=n1_;have GW188:=n2_;have GE188:=n3_;clear n0_ n1_ n2_ n3_ hb hbox hg;have hcz58_0:=Up.c0 BK188;have hcz58_1:=Up.c1 BK188;have hfz58_0:=blk_frozen BK188.out 0;have hfz58_1:=blk_frozen BK188.out 1) | ((with_reducible refine gate_callee (f:=4) rfl ?_);refine Up.gl (some 9) Tryd.func4 #[.agg #[.slice A0_0 l0_0.length c0_0,.slice A0_1 l0_1.length c0_1],.int .i64 1048576] ?_;(with_reducible refine (laws_szShape.calls k _ _ l0_0 _ _ l0_1 1048576 t189 _ ?side1 ?side2 ?side3 ?side4 A2.out).mono ?_);(case side1 => exact Up.Cx HR0_0 HB);(case side2 => exact HC0_0.out);(case side3 => exact Up.Cx HR0_1 HB);(case side4 => exact HC0_1.out);rintro e w59 ⟨rfl,hb⟩;refine ⟨_,rfl,?_⟩;have n0_:=Up.KB BK188 hb;have n1_:=Aside0.mk (below_step (Up.Bx HB) hb);clear BK188 HB;have BK188:=n0_;have HB:=n1_;clear n0_ n1_;(try clear hb);(try clear hb2);(try clear hk);(try clear hi);have hcz60_0:=Up.c0 BK188;have hcz60_1:=Up.c1 BK188;have hfz60_0:=blk_frozen BK188.out 0;have hfz60_1:=blk_frozen BK188.out 1) | ((with_reducible refine gate_callee (f:=6) rfl ?_);refine Up.gl (some 13) Tryd.func6 #[.agg #[.slice A0_0 l0_0.length c0_0,.slice A0_1 l0_1.length c0_1]] ?_;(with_reducible refine (laws_toShape.calls k _ _ l0_0 _ _ l0_1 t190 t193 _ ?side1 ?side2 ?side3 ?side4 A7.out).mono ?_);(case side1 => exact Up.Cx HR0_0 HB);(case side2 => exact HC0_0.out);(case side3 => exact Up.Cx HR0_1 HB);(case side4 => exact HC0_1.out);rintro e w61 ⟨v191,v194,rfl,ho0,ho1,hb⟩;refine ⟨_,rfl,?_⟩;have n0_:=Aside0.mk (Kd.S_lower ho0 (below_size (Up.Bx HB)));have n1_:=Aside0.mk (Kd.S_lower ho1 (below_size (Up.Bx HB)));have n2_:=Up.KB BK188 hb;have n3_:=Aside0.mk (below_step (Up.Bx HB) hb);clear BK188 HB;have HO192:=n0_;have HO195:=n1_;have BK188:=n2_;have HB:=n3_;clear n0_ n1_ n2_ n3_;(try clear hb);(try clear hb2);(try clear hk);(try clear hi);(try clear ho0);(try clear ho1);obtain ⟨Ao62,co62,eo62⟩:=Kd.S_slice HO192.out;subst eo62;obtain ⟨Ao63,co63,eo63⟩:=Kd.S_slice HO195.out;subst eo63) | ((with_reducible refine gate_callee (f:=5) rfl ?_);refine Up.gl (some 14) Tryd.func5 #[.agg #[.slice Ao62 t190.length co62,.slice Ao63 t193.length co63]] ?_;(with_reducible refine (spec_ShapeText.calls k _ _ t190 _ _ t193 t196 _ ?side1 ?side2 ?side3 ?side4 A8.out).mono ?_);(case side1 => repeat (first | exact (Kd.S_reads' HO192.out).2.2 | (with_reducible refine Kd.C_alloc ?_ _) | (with_reducible refine Kd.C_drewN ?_ _) | (with_reducible refine Kd.C_drew ?_)));(case side2 => exact (Kd.S_reads' HO192.out).2.1);(case side3 => repeat (first | exact (Kd.S_reads' HO195.out).2.2 | (with_reducible refine Kd.C_alloc ?_ _) | (with_reducible refine Kd.C_drewN ?_ _) | (with_reducible refine Kd.C_drew ?_)));(case side4 => exact (Kd.S_reads' HO195.out).2.1);rintro e w64 ⟨rfl,hb⟩;refine ⟨_,rfl,?_⟩;have n0_:=Up.SB HO192 hb;have n1_:=Up.SB HO195 hb;have n2_:=Up.KB BK188 hb;have n3_:=Aside0.mk (below_step (Up.Bx HB) hb);clear HO192 HO195 BK188 HB;have HO192:=n0_;have HO195:=n1_;have BK188:=n2_;have HB:=n3_;clear n0_ n1_ n2_ n3_;(try clear hb);(try clear hb2);(try clear hk);(try clear hi);have hcz65_0:=Up.c0 BK188;have hcz65_1:=Up.c1 BK188;have hfz65_0:=blk_frozen BK188.out 0;have hfz65_1:=blk_frozen BK188.out 1) | ((with_reducible refine gate_callee (f:=6) rfl ?_);refine Up.gl (some 16) Tryd.func6 #[.agg #[.slice A0_0 l0_0.length c0_0,.slice A0_1 l0_1.length c0_1]] ?_;(with_reducible refine (laws_toShape.calls k _ _ l0_0 _ _ l0_1 t197 t200 _ ?side1 ?side2 ?side3 ?side4 A9.out).mono ?_);(case side1 => exact Up.Cx HR0_0 HB);(case side2 => exact HC0_0.out);(case side3 => exact Up.Cx HR0_1 HB);(case side4 => exact HC0_1.out);rintro e w66 ⟨v198,v201,rfl,ho0,ho1,hb⟩;refine ⟨_,rfl,?_⟩;have n0_:=Aside0.mk (Kd.S_mono (Kd.S_told (Kd.S_told (Kd.S_old (Up.Sup HO192) hb) (Kd.S_base ho0)) (Kd.S_base ho1)) (fun _ h_ => h_.1));have n1_:=Aside0.mk (Kd.S_mono (Kd.S_told (Kd.S_told (Kd.S_old (Up.Sup HO195) hb) (Kd.S_base ho0)) (Kd.S_base ho1)) (fun _ h_ => h_.1));have n2_:=Aside0.mk (Kd.S_lower (Kd.S_new' (Kd.S_new' ho0 (Kd.S_lt (Up.Sup HO192))) (Kd.S_lt (Up.Sup HO195))) (below_size (Up.Bx HB)));have n3_:=Aside0.mk (Kd.S_lower (Kd.S_new' (Kd.S_new' ho1 (Kd.S_lt (Up.Sup HO192))) (Kd.S_lt (Up.Sup HO195))) (below_size (Up.Bx HB)));have n4_:=Up.KB BK188 hb;have n5_:=Aside0.mk (below_step (Up.Bx HB) hb);clear HO192 HO195 BK188 HB;have HO192:=n0_;have HO195:=n1_;have HO199:=n2_;have HO202:=n3_;have BK188:=n4_;have HB:=n5_;clear n0_ n1_ n2_ n3_ n4_ n5_;(try clear hb);(try clear hb2);(try clear hk);(try clear hi);(try clear ho0);(try clear ho1)) | ((with_reducible refine gate_dst (N:=5) rfl ?_);refine Up.bx 5 29 #[.slice none 0 0,.slice none 0 0] ?_;intro gb203 hg w67 hbox hb;have n0_:=Up.SB HO192 hb;have n1_:=Up.SB HO195 hb;have n2_:=Up.SB HO199 hb;have n3_:=Up.SB HO202 hb;have n4_:=Up.KB BK188 hb;have n5_:=Aside0.mk (below_step (Up.Bx HB) hb);have n6_:=Aside0.mk (hbox);have n7_:=Up.gw hg HB;have n8_:=Up.gw hg HB;have n9_:=Up.nl hg BK188;have n10_:=Up.ng hg BK188;clear HO192 HO195 HO199 HO202 BK188 HB;have HO192:=n0_;have HO195:=n1_;have HO199:=n2_;have HO202:=n3_;have BK188:=n4_;have HB:=n5_;have BK203:=n6_;have GW203:=n7_;have GE203:=n8_;have NB188_203:=n9_;have NB203_188:=n10_;clear n0_ n1_ n2_ n3_ n4_ n5_ n6_ n7_ n8_ n9_ n10_ hb hbox hg;obtain ⟨Ao68,co68,eo68⟩:=Kd.S_slice HO199.out;subst eo68;have hnb69:=NB203_188.out;have hnc69:=NB188_203.out;have hcz70_0:=Up.c0 BK203;have hcz70_1:=Up.c1 BK203;have hfz70_0:=blk_frozen BK203.out 0;have hfz70_1:=blk_frozen BK203.out 1;obtain ⟨Ao71,co71,eo71⟩:=Kd.S_slice HO202.out;subst eo71) | ((with_reducible refine gate_callee (f:=7) rfl ?_);refine Up.gl (some 18) Tryd.func7 #[.agg #[.slice Ao68 t197.length co68,.slice Ao71 t200.length co71]] ?_;(with_reducible refine (impl_ShapeText.calls (hT_:=?tab1) k _ _ t197 _ _ t200 t204 _ ?side1 ?side2 ?side3 ?side4 A10.out).mono ?_);(case tab1 => exact hT_.below (Up.Bx HB));(case side1 => refine (Kd.S_reads' (e:=39) (base:=w.heap.size) (ok:=fun k_ => ((some k_ ≠ (.slice Ao71 t200.length co71 : Value).ownBlock ∧ some k_ ≠ (.slice Ao62 t190.length co62 : Value).ownBlock) ∧ some k_ ≠ (.slice Ao63 t193.length co63 : Value).ownBlock)) (n:=t197.length) (c:=co68) ?_).2.2;exact (by (with_reducible repeat (first | apply Kd.S_alloc | apply Kd.S_drewN | apply Kd.S_drew));exact (Kd.S_mono (Kd.S_far (p:=⟨gb203,1,none⟩) (Kd.S_far (p:=⟨gb203,0,none⟩) (Kd.S_types HO199.out BK203.out (by decide)) (fun _ hk => hk.2) (.slice Ao68 t197.length co68)) (fun _ hk => hk.2) (.slice Ao71 t200.length co71)) (fun _ h_ => h_.1))));(case side2 => exact (Kd.S_reads' HO199.out).2.1);(case side3 => refine (Kd.S_reads' (e:=39) (base:=w.heap.size) (ok:=fun k_ => ((some k_ ≠ (.slice Ao68 t197.length co68 : Value).ownBlock ∧ some k_ ≠ (.slice Ao62 t190.length co62 : Value).ownBlock) ∧ some k_ ≠ (.slice Ao63 t193.length co63 : Value).ownBlock)) (n:=t200.length) (c:=co71) ?_).2.2;exact (by (with_reducible repeat (first | apply Kd.S_alloc | apply Kd.S_drewN | apply Kd.S_drew));exact (Kd.S_mono (Kd.S_far (p:=⟨gb203,1,none⟩) (Kd.S_far (p:=⟨gb203,0,none⟩) (Kd.S_types HO202.out BK203.out (by decide)) (fun _ hk => hk.2) (.slice Ao68 t197.length co68)) (fun _ hk => hk.2) (.slice Ao71 t200.length co71)) (fun _ h_ => h_.1))));(case side4 => exact (Kd.S_reads' HO202.out).2.1);rintro e w72 ⟨rfl,hb⟩;refine ⟨_,rfl,?_⟩;have n0_:=Aside0.mk (Kd.S_below (by (with_reducible repeat (first | apply Kd.S_alloc | apply Kd.S_drewN | apply Kd.S_drew));exact (Kd.S_mono (Kd.S_far (p:=⟨gb203,1,none⟩) (Kd.S_far (p:=⟨gb203,0,none⟩) (Kd.S_types HO192.out BK203.out (by decide)) (fun _ hk => hk.2) (.slice Ao68 t197.length co68)) (fun _ hk => hk.2) (.slice Ao71 t200.length co71)) (fun _ h_ => h_.1))) hb);have n1_:=Aside0.mk (Kd.S_below (by (with_reducible repeat (first | apply Kd.S_alloc | apply Kd.S_drewN | apply Kd.S_drew));exact (Kd.S_mono (Kd.S_far (p:=⟨gb203,1,none⟩) (Kd.S_far (p:=⟨gb203,0,none⟩) (Kd.S_types HO195.out BK203.out (by decide)) (fun _ hk => hk.2) (.slice Ao68 t197.length co68)) (fun _ hk => hk.2) (.slice Ao71 t200.length co71)) (fun _ h_ => h_.1))) hb);have n2_:=Aside0.mk (Kd.S_below (by (with_reducible repeat (first | apply Kd.S_alloc | apply Kd.S_drewN | apply Kd.S_drew));exact (Kd.S_mono (Kd.S_far (p:=⟨gb203,1,none⟩) (Kd.S_far (p:=⟨gb203,0,none⟩) (Kd.S_types HO199.out BK203.out (by decide)) (fun _ hk => hk.2) (.slice Ao68 t197.length co68)) (fun _ hk => hk.2) (.slice Ao71 t200.length co71)) (fun _ h_ => h_.1))) hb);have n3_:=Aside0.mk (Kd.S_below (by (with_reducible repeat (first | apply Kd.S_alloc | apply Kd.S_drewN | apply Kd.S_drew));exact (Kd.S_mono (Kd.S_far (p:=⟨gb203,1,none⟩) (Kd.S_far (p:=⟨gb203,0,none⟩) (Kd.S_types HO202.out BK203.out (by decide)) (fun _ hk => hk.2) (.slice Ao68 t197.length co68)) (fun _ hk => hk.2) (.slice Ao71 t200.length co71)) (fun _ h_ => h_.1))) hb);have n4_:=Aside0.mk (blk_below (g:=gb188) (o:=.cells #[.slice A0_0 l0_0.length c0_0,.slice A0_1 l0_1.length c0_1] 24 (0,0)) (Up.Kx BK188) hb);have n5_:=Aside0.mk (blk_below (g:=gb203) (o:=.cells #[.slice Ao68 t197.length co68,.slice Ao71 t200.length co71] 29 (0,0)) (Up.Kx BK203) hb);have n6_:=Aside0.mk (below_step (Up.Bx HB) hb);clear HO192 HO195 HO199 HO202 BK188 BK203 HB;have HO192:=n0_;have HO195:=n1_;have HO199:=n2_;have HO202:=n3_;have BK188:=n4_;have BK203:=n5_;have HB:=n6_;clear n0_ n1_ n2_ n3_ n4_ n5_ n6_;(try clear hb);(try clear hb2);(try clear hk);(try clear hi)))
   go_ret
   exact Up.e1 (Up.Bx HB)

end Go.Proofs.YtpfpfnjmhdgglaaDoor.OFnExactShapeText
