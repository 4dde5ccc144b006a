-- Laid by a program of this session (wip/myprint.py): the kit's print of the functions, contracts of our own among them.
import Derived.Test.YtdgmlakgnbmbbaaDoorOFnValueOkx0
import Derived.Test.YtdgmlakgnbmbbaaDoorOFnValueOkx8
namespace Go.Proofs.YtdgmlakgnbmbbaaDoor.OFnValueOk
open Go.RowKit Go.Proofs.YtdgmlakgnbmbbaaDoorW.PrintWords Go.Proofs.YtdgmlakgnbmbbaaDoorW.PrintLast Go.Proofs.YtdgmlakgnbmbbaaDoorW.PrintMore
attribute [local go_sem] max2_int min2_int max_two min_two max_three min_three max_four min_four   -- for this text's walks alone
set_option linter.unusedVariables false
set_option linter.unusedSimpArgs false

/-! ### impl_valueFits: function 29 -/
mutual
def impl_valueFits.j0 : Nat → List (List (S81)) → Bool → ByteArray → Int → List (S27) → List Int → Option (Bool)
 | 0,_,_,_,_,_,_ => none
 | k + 1,x0,x18,x390000,x390001,x390002,x390003 => if x18 = true then (some false) else (if x390000.toList = ([110] : List UInt8) then (if x390001 ≥ 0 then (if x390001 ≤ 1000000 then (some ((x390002.length : Int) == 0)) else (some false)) else (some false)) else (if x390000.toList = ([98] : List UInt8) then (if x390001 = 0 then (some ((x390002.length : Int) == 0)) else (if x390001 = 1 then (some ((x390002.length : Int) == 0)) else (some false))) else (if x390000.toList = ([111] : List UInt8) then (if x390001 ≥ 0 then (if x390001 < 4 then (some ((x390002.length : Int) == 0)) else (some false)) else (some false)) else ((impl_recordOf.f x0 x390000).bind fun bt391 => (if x390001 = 0 then (impl_valueFits.j1 k x0 bt391.2 ((x390002.length : Int) != (bt391.2.length : Int)) x390000 x390001 x390002 x390003) else (impl_valueFits.j1 k x0 bt391.2 true x390000 x390001 x390002 x390003))))))
def impl_valueFits.j1 : Nat → List (List (S81)) → List ByteArray → Bool → ByteArray → Int → List (S27) → List Int → Option (Bool)
 | 0,_,_,_,_,_,_,_ => none
 | k + 1,x0,x5,x84,x390000,x390001,x390002,x390003 => if x84 = true then (some false) else (impl_valueFits.l0 k x0 x5 x390002 (x390002.length : Int) 0)
def impl_valueFits.l0 : Nat → List (List (S81)) → List ByteArray → List (S27) → Int → Int → Option (Bool)
 | 0,_,_,_,_,_ => none
 | k + 1,x0,x5,x86,x87,x88 => if x88 < x87 then (if 0 ≤ x88 then (if x88 < (x86.length : Int) then (if x88 < (x5.length : Int) then (if ((rd_T27 x86 x88).f0).toList = (rdOf ByteArray.empty x5 x88).toList then ((impl_valueFits.f k x0 ((rd_T27 x86 x88).f0) ((rd_T27 x86 x88).f1) ((rd_T27 x86 x88).f2) ((rd_T27 x86 x88).f3)).bind fun t398 => (if t398 = true then (impl_valueFits.l0 k x0 x5 x86 x87 (wrap64 (x88 + 1))) else (some false))) else (some false)) else (none)) else (none)) else (none)) else (some true)
def impl_valueFits.f : Nat → List (List (S81)) → ByteArray → Int → List (S27) → List Int → Option (Bool)
 | 0,_,_,_,_,_ => none
 | k + 1,l0,a1_0,a1_1,l1_2,l1_3 => if (l1_3.length : Int) > 0 then (impl_valueFits.j0 k l0 true a1_0 a1_1 l1_2 l1_3) else ((impl_plainOk.f l0 a1_0).bind fun t390 => (impl_valueFits.j0 k l0 (!t390) a1_0 a1_1 l1_2 l1_3))
end
theorem impl_valueFits.mono_l : ∀ k,(∀ y0 y1 y2 y3 y4,LeO (impl_valueFits.f k y0 y1 y2 y3 y4) (impl_valueFits.f (k + 1) y0 y1 y2 y3 y4)) ∧ (∀ y0 y1 y2 y3 y4 y5,LeO (impl_valueFits.j0 k y0 y1 y2 y3 y4 y5) (impl_valueFits.j0 (k + 1) y0 y1 y2 y3 y4 y5)) ∧ (∀ y0 y1 y2 y3 y4 y5 y6,LeO (impl_valueFits.j1 k y0 y1 y2 y3 y4 y5 y6) (impl_valueFits.j1 (k + 1) y0 y1 y2 y3 y4 y5 y6)) ∧ (∀ y0 y1 y2 y3 y4,LeO (impl_valueFits.l0 k y0 y1 y2 y3 y4) (impl_valueFits.l0 (k + 1) y0 y1 y2 y3 y4))
 | 0 => ⟨fun _ _ _ _ _ r h => by simp [impl_valueFits.f] at h,fun _ _ _ _ _ _ r h => by simp [impl_valueFits.j0] at h,fun _ _ _ _ _ _ _ r h => by simp [impl_valueFits.j1] at h,fun _ _ _ _ _ r h => by simp [impl_valueFits.l0] at h⟩
 | k + 1 => by
  obtain ⟨ih0,ih1,ih2,ih3⟩:=impl_valueFits.mono_l k
  refine ⟨?_,?_,?_,?_⟩
  ·intro y0 y1 y2 y3 y4
   unfold impl_valueFits.f
   repeat' first
   | (with_reducible exact ih0 _ _ _ _ _)
   | (with_reducible exact ih1 _ _ _ _ _ _)
   | (with_reducible exact ih2 _ _ _ _ _ _ _)
   | (with_reducible exact ih3 _ _ _ _ _)
   | (with_reducible exact LeO.refl _)
   | (with_reducible exact LeO.none _)
   | (with_reducible refine LeO.ite ?_ ?_)
   | (with_reducible refine LeO.bind ?_ (fun _ => ?_))
   | exact ih0 _ _ _ _ _
   | exact ih1 _ _ _ _ _ _
   | exact ih2 _ _ _ _ _ _ _
   | exact ih3 _ _ _ _ _
   | exact LeO.none _
   | refine LeO.ite ?_ ?_
   | refine LeO.bind ?_ (fun _ => ?_)
  ·intro y0 y1 y2 y3 y4 y5
   unfold impl_valueFits.j0
   repeat' first
   | (with_reducible exact ih0 _ _ _ _ _)
   | (with_reducible exact ih1 _ _ _ _ _ _)
   | (with_reducible exact ih2 _ _ _ _ _ _ _)
   | (with_reducible exact ih3 _ _ _ _ _)
   | (with_reducible exact LeO.refl _)
   | (with_reducible exact LeO.none _)
   | (with_reducible refine LeO.ite ?_ ?_)
   | (with_reducible refine LeO.bind ?_ (fun _ => ?_))
   | exact ih0 _ _ _ _ _
   | exact ih1 _ _ _ _ _ _
   | exact ih2 _ _ _ _ _ _ _
   | exact ih3 _ _ _ _ _
   | exact LeO.none _
   | refine LeO.ite ?_ ?_
   | refine LeO.bind ?_ (fun _ => ?_)
  ·intro y0 y1 y2 y3 y4 y5 y6
   unfold impl_valueFits.j1
   repeat' first
   | (with_reducible exact ih0 _ _ _ _ _)
   | (with_reducible exact ih1 _ _ _ _ _ _)
   | (with_reducible exact ih2 _ _ _ _ _ _ _)
   | (with_reducible exact ih3 _ _ _ _ _)
   | (with_reducible exact LeO.refl _)
   | (with_reducible exact LeO.none _)
   | (with_reducible refine LeO.ite ?_ ?_)
   | (with_reducible refine LeO.bind ?_ (fun _ => ?_))
   | exact ih0 _ _ _ _ _
   | exact ih1 _ _ _ _ _ _
   | exact ih2 _ _ _ _ _ _ _
   | exact ih3 _ _ _ _ _
   | exact LeO.none _
   | refine LeO.ite ?_ ?_
   | refine LeO.bind ?_ (fun _ => ?_)
  ·intro y0 y1 y2 y3 y4
   unfold impl_valueFits.l0
   repeat' first
   | (with_reducible exact ih0 _ _ _ _ _)
   | (with_reducible exact ih1 _ _ _ _ _ _)
   | (with_reducible exact ih2 _ _ _ _ _ _ _)
   | (with_reducible exact ih3 _ _ _ _ _)
   | (with_reducible exact LeO.refl _)
   | (with_reducible exact LeO.none _)
   | (with_reducible refine LeO.ite ?_ ?_)
   | (with_reducible refine LeO.bind ?_ (fun _ => ?_))
   | exact ih0 _ _ _ _ _
   | exact ih1 _ _ _ _ _ _
   | exact ih2 _ _ _ _ _ _ _
   | exact ih3 _ _ _ _ _
   | exact LeO.none _
   | refine LeO.ite ?_ ?_
   | refine LeO.bind ?_ (fun _ => ?_)
theorem impl_valueFits.mono : ∀ a0 a1 a2 a3 a4 k,LeO (impl_valueFits.f k a0 a1 a2 a3 a4) (impl_valueFits.f (k + 1) a0 a1 a2 a3 a4):=by
 intro a0 a1 a2 a3 a4 k
 obtain ⟨ih0,ih1,ih2,ih3⟩:=impl_valueFits.mono_l k
 exact ih0 a0 a1 a2 a3 a4
def impl_valueFits.T16 : Bool × List (List Nat × List Nat):=(true,[([],[]),([0],[0]),([],[]),([],[]),([2,3],[2,3]),([4],[4]),([1,5],[1,5]),([6],[6]),([7],[7]),([7],[7]),([8,9,7,7],[7,8,9]),([10,7],[7,10]),([7,11],[7,11])])
def impl_valueFits.B16 : List Nat:=[0,1,0,0,12,28,63,127,255,255,1023,2047,4095]
theorem impl_valueFits.tab16 : rtab .any (opsOf Tryd.f29 16) = impl_valueFits.T16:=by kernel_rfl
theorem impl_valueFits.bits16 : waitsOk impl_valueFits.T16.2 impl_valueFits.B16 = true:=by kernel_rfl
set_option maxHeartbeats 8000000 in
set_option maxRecDepth 100000 in
theorem impl_valueFits.calls (k : Nat) : ∀ (A0 : Option Addr) (c0 : Nat) (l0 : List (List (S81))) (a1_0 : ByteArray) (a1_1 : Int) (A1_2 : Option Addr) (c1_2 : Nat) (l1_2 : List (S27)) (A1_3 : Option Addr) (c1_3 : Nat) (l1_3 : List Int) (r : Bool) (w : World) (hr0 : Kd.C (Kd.slice 81 k81) w A0 l0.length l0) (hc0 : l0.length ≤ c0) (hr1_2 : Kd.C k27 w A1_2 l1_2.length l1_2) (hc1_2 : l1_2.length ≤ c1_2) (hr1_3 : Kd.C (Kd.int .i64) w A1_3 l1_3.length l1_3) (hc1_3 : l1_3.length ≤ c1_3) (h : impl_valueFits.f k l0 a1_0 a1_1 l1_2 l1_3 = some r),
  Calls Tryd.prog 29 #[.slice A0 l0.length c0,.agg #[.string a1_0,.int .i64 a1_1,.slice A1_2 l1_2.length c1_2,.slice A1_3 l1_3.length c1_3]] w fun e w' => e = .returned (.bool r) ∧ Below w.heap.size w w':=by
 induction k using Nat.strongRecOn with
 | _ k ih =>
 intro A0 c0 l0 a1_0 a1_1 A1_2 c1_2 l1_2 A1_3 c1_3 l1_3 r w hr0 hc0 hr1_2 hc1_2 hr1_3 hc1_3 h
 cases k with
 | zero => exact absurd h (by simp [impl_valueFits.f])
 | succ k =>
 simp only [impl_valueFits.f] at h
 have hu27:=Tryd.underlying27
 have HR0:=Aside0.mk hr0
 have HC0:=Aside0.mk hc0
 clear hr0 hc0
 have HR1_2:=Aside0.mk hr1_2
 have HC1_2:=Aside0.mk hc1_2
 clear hr1_2 hc1_2
 have HR1_3:=Aside0.mk hr1_3
 have HC1_3:=Aside0.mk hc1_3
 clear hr1_3 hc1_3
 have HB:=Aside0.mk (Below.refl w.heap.size w)
 have H : (if (l1_3.length : Int) > 0 then (impl_valueFits.j0 k l0 true a1_0 a1_1 l1_2 l1_3) else ((impl_plainOk.f l0 a1_0).bind fun t390 => (impl_valueFits.j0 k l0 (!t390) a1_0 a1_1 l1_2 l1_3))) = some r:=h
 clear h
 have HC3:=Aside0.mk H
 clear H
 go_enter Tryd.func29,Tryd.ntmps29
 go_upto_region 1 with (first | ((with_reducible refine gate_dst (N:=3) rfl ?_);(try (refine gate_guard (by rfl) ?_;dsimp only));refine Up.bx 3 27 #[.string a1_0,.int .i64 a1_1,.slice A1_2 l1_2.length c1_2,.slice A1_3 l1_3.length c1_3] ?_;intro gb389 hg w4 hbox hb;have n0_:=Up.BB HB hb;have n1_:=Aside0.mk (hbox);have n2_:=Up.gw hg HB;have n3_:=Up.gw hg HB;clear HB;have HB:=n0_;have BK389:=n1_;have GW389:=n2_;have GE389:=n3_;clear n0_ n1_ n2_ n3_ hb hbox hg))
 (try simp only [Act.put,List.setIfInBounds_toArray,List.set_cons_zero,List.set_cons_succ])
 go_cut [18] (fun v18 wc => ∃ (kq : Nat) (x18_2 : Bool),v18 = .bool x18_2 ∧ Aside0 (impl_valueFits.j0 kq l0 x18_2 a1_0 a1_1 l1_2 l1_3 = some r) ∧ Aside0 (kq ≤ k) ∧ Aside0 (wc.heap[gb389]? = some (.cells #[.string a1_0,.int .i64 a1_1,(.slice A1_2 l1_2.length c1_2),(.slice A1_3 l1_3.length c1_3)] 27 (0,0))) ∧ Aside0 (Below w.heap.size w wc))
 case first =>
  have H:=HC3.out
  clear HC3
  by_cases c5 : (l1_3.length : Int) > 0
  ·rw [if_pos c5] at H
   have c5b0 : decide (0 < (l1_3.length : Int)) = true:=decide_eq_true c5
   have c5b1 : decide (0 < l1_3.length) = true:=decide_eq_true (by omega)
   clear c5
   (first | rw [c5b0] | (simp only [i64_w,i32_w];rw [c5b0]) | skip)
   have H':=Aside0.mk H
   clear H
   have hcz6_0:=Up.c0 BK389
   have hcz6_1:=Up.c1 BK389
   have hcz6_2:=Up.c2 BK389
   have hcz6_3:=Up.c3 BK389
   have hfz6_0:=blk_frozen BK389.out 0
   have hfz6_1:=blk_frozen BK389.out 1
   have hfz6_2:=blk_frozen BK389.out 2
   have hfz6_3:=blk_frozen BK389.out 3
   go_wp2
   go_meet
   case rel => exact ⟨_,(true),(by first | rfl | (simp;done) | (simp [*];done)),H',⟨by first | omega | exact Nat.le_refl _⟩,⟨by (with_reducible repeat (first | refine blk_drewN ?_ _ | refine blk_drew ?_ | refine blk_alloc ?_ _));exact BK389.out⟩,⟨Up.Bx HB⟩⟩
  ·rw [if_neg c5] at H
   have c5b0 : decide (0 < (l1_3.length : Int)) = false:=decide_eq_false c5
   have c5b1 : decide (0 < l1_3.length) = false:=decide_eq_false (by omega)
   clear c5
   (first | rw [c5b0] | (simp only [i64_w,i32_w];rw [c5b0]) | skip)
   replace H:=Option.bind_eq_some_iff.mp H
   obtain ⟨t390,A70,H⟩:=H
   replace H : (impl_valueFits.j0 k l0 (!t390) a1_0 a1_1 l1_2 l1_3) = some r:=H
   have A7:=Aside0.mk A70
   clear A70
   have H':=Aside0.mk H
   clear H
   have hcz8_0:=Up.c0 BK389
   have hcz8_1:=Up.c1 BK389
   have hcz8_2:=Up.c2 BK389
   have hcz8_3:=Up.c3 BK389
   have hfz8_0:=blk_frozen BK389.out 0
   have hfz8_1:=blk_frozen BK389.out 1
   have hfz8_2:=blk_frozen BK389.out 2
   have hfz8_3:=blk_frozen BK389.out 3
   go_wp2_with (first | (go_at_call 55;(with_reducible refine (impl_plainOk.calls _ _ l0 a1_0 t390 _ ?side1 ?side2 A7.out).mono ?_);(case side1 => exact Up.Cx HR0 HB);(case side2 => exact HC0.out);rintro e w' ⟨rfl,⟨nd,rfl⟩⟩))
   go_meet
   case rel => exact ⟨_,(!t390),(by first | rfl | (simp;done) | (simp [*];done)),H',⟨by first | omega | exact Nat.le_refl _⟩,⟨by (with_reducible repeat (first | refine blk_drewN ?_ _ | refine blk_drew ?_ | refine blk_alloc ?_ _));exact BK389.out⟩,⟨Up.Bx HB⟩⟩
 case rest =>
  clear HC3
  try clear c1
  try clear c2
  try clear p2
  try clear c5
  try clear c5b0
  try clear c5b1
  try clear hcz6_0
  try clear hcz6_1
  try clear hcz6_2
  try clear hcz6_3
  try clear hcz8_0
  try clear hcz8_1
  try clear hcz8_2
  try clear hcz8_3
  try clear hfz6_0
  try clear hfz6_1
  try clear hfz6_2
  try clear hfz6_3
  try clear hfz8_0
  try clear hfz8_1
  try clear hfz8_2
  try clear hfz8_3
  obtain ⟨kq,x18_2,rfl,HA,HJ2,BK389,HB⟩:=hcut
  cases kq with
  | zero => exact absurd HA.out (by simp [impl_valueFits.j0])
  | succ kj2 =>
   have H:=HA.out
   clear HA
   simp only [impl_valueFits.j0] at H
   by_cases c9 : x18_2 = true
   ·subst c9
    have H1 : (some false) = some r:=by rw [if_pos rfl] at H;exact H
    clear H
    have H:=H1
    clear H1
    obtain rfl:=Option.some.inj H
    go_wp2
    go_ret
    exact Up.e1 (Up.Bx HB)
   ·replace c9:=Bool.eq_false_iff.mpr c9
    subst c9
    have H1 : (if a1_0.toList = ([110] : List UInt8) then (if a1_1 ≥ 0 then (if a1_1 ≤ 1000000 then (some ((l1_2.length : Int) == 0)) else (some false)) else (some false)) else (if a1_0.toList = ([98] : List UInt8) then (if a1_1 = 0 then (some ((l1_2.length : Int) == 0)) else (if a1_1 = 1 then (some ((l1_2.length : Int) == 0)) else (some false))) else (if a1_0.toList = ([111] : List UInt8) then (if a1_1 ≥ 0 then (if a1_1 < 4 then (some ((l1_2.length : Int) == 0)) else (some false)) else (some false)) else ((impl_recordOf.f l0 a1_0).bind fun bt391 => (if a1_1 = 0 then (impl_valueFits.j1 kj2 l0 bt391.2 ((l1_2.length : Int) != (bt391.2.length : Int)) a1_0 a1_1 l1_2 l1_3) else (impl_valueFits.j1 kj2 l0 bt391.2 true a1_0 a1_1 l1_2 l1_3)))))) = some r:=by rw [if_neg (show ¬ (false = true) by decide)] at H;exact H
    clear H
    have H:=H1
    clear H1
    by_cases c10 : a1_0.toList = ([110] : List UInt8)
    ·rw [if_pos c10] at H
     have c10b0 : (a1_0.toList == ([110] : List UInt8)) = true:=beq_iff_eq.mpr c10
     have c10b1 : (a1_0.toList != ([110] : List UInt8)) = false:=bne_eq_false_iff_eq.mpr c10
     clear c10
     by_cases c11 : a1_1 ≥ 0
     ·rw [if_pos c11] at H
      have c11b0 : decide (0 ≤ a1_1) = true:=decide_eq_true c11
      clear c11
      by_cases c12 : a1_1 ≤ 1000000
      ·rw [if_pos c12] at H
       have c12b0 : decide (a1_1 ≤ 1000000) = true:=decide_eq_true c12
       clear c12
       obtain rfl:=Option.some.inj H
       have hcz13_0:=Up.c0 BK389
       have hcz13_1:=Up.c1 BK389
       have hcz13_2:=Up.c2 BK389
       have hcz13_3:=Up.c3 BK389
       have hfz13_0:=blk_frozen BK389.out 0
       have hfz13_1:=blk_frozen BK389.out 1
       have hfz13_2:=blk_frozen BK389.out 2
       have hfz13_3:=blk_frozen BK389.out 3
       go_wp2
       go_ret
       exact Up.e1 (Up.Bx HB)
      ·rw [if_neg c12] at H
       have c12b0 : decide (a1_1 ≤ 1000000) = false:=decide_eq_false c12
       clear c12
       obtain rfl:=Option.some.inj H
       have hcz14_0:=Up.c0 BK389
       have hcz14_1:=Up.c1 BK389
       have hcz14_2:=Up.c2 BK389
       have hcz14_3:=Up.c3 BK389
       have hfz14_0:=blk_frozen BK389.out 0
       have hfz14_1:=blk_frozen BK389.out 1
       have hfz14_2:=blk_frozen BK389.out 2
       have hfz14_3:=blk_frozen BK389.out 3
       go_wp2
       go_ret
       exact Up.e1 (Up.Bx HB)
     ·rw [if_neg c11] at H
      have c11b0 : decide (0 ≤ a1_1) = false:=decide_eq_false c11
      clear c11
      obtain rfl:=Option.some.inj H
      have hcz15_0:=Up.c0 BK389
      have hcz15_1:=Up.c1 BK389
      have hcz15_2:=Up.c2 BK389
      have hcz15_3:=Up.c3 BK389
      have hfz15_0:=blk_frozen BK389.out 0
      have hfz15_1:=blk_frozen BK389.out 1
      have hfz15_2:=blk_frozen BK389.out 2
      have hfz15_3:=blk_frozen BK389.out 3
      go_wp2
      go_ret
      exact Up.e1 (Up.Bx HB)
    ·rw [if_neg c10] at H
     have c10b0 : (a1_0.toList == ([110] : List UInt8)) = false:=beq_eq_false_iff_ne.mpr c10
     have c10b1 : (a1_0.toList != ([110] : List UInt8)) = true:=bne_iff_ne.mpr c10
     by_cases c16 : a1_0.toList = ([98] : List UInt8)
     ·rw [if_pos c16] at H
      have c16b0 : (a1_0.toList == ([98] : List UInt8)) = true:=beq_iff_eq.mpr c16
      have c16b1 : (a1_0.toList != ([98] : List UInt8)) = false:=bne_eq_false_iff_eq.mpr c16
      clear c16
      by_cases c17 : a1_1 = 0
      ·rw [if_pos c17] at H
       have c17b0 : (a1_1 == 0) = true:=beq_iff_eq.mpr c17
       have c17b1 : (a1_1 != 0) = false:=bne_eq_false_iff_eq.mpr c17
       clear c17
       obtain rfl:=Option.some.inj H
       have hcz18_0:=Up.c0 BK389
       have hcz18_1:=Up.c1 BK389
       have hcz18_2:=Up.c2 BK389
       have hcz18_3:=Up.c3 BK389
       have hfz18_0:=blk_frozen BK389.out 0
       have hfz18_1:=blk_frozen BK389.out 1
       have hfz18_2:=blk_frozen BK389.out 2
       have hfz18_3:=blk_frozen BK389.out 3
       go_wp2
       go_ret
       exact Up.e1 (Up.Bx HB)
      ·rw [if_neg c17] at H
       have c17b0 : (a1_1 == 0) = false:=beq_eq_false_iff_ne.mpr c17
       have c17b1 : (a1_1 != 0) = true:=bne_iff_ne.mpr c17
       by_cases c19 : a1_1 = 1
       ·rw [if_pos c19] at H
        have c19b0 : (a1_1 == 1) = true:=beq_iff_eq.mpr c19
        have c19b1 : (a1_1 != 1) = false:=bne_eq_false_iff_eq.mpr c19
        clear c19
        obtain rfl:=Option.some.inj H
        have hcz20_0:=Up.c0 BK389
        have hcz20_1:=Up.c1 BK389
        have hcz20_2:=Up.c2 BK389
        have hcz20_3:=Up.c3 BK389
        have hfz20_0:=blk_frozen BK389.out 0
        have hfz20_1:=blk_frozen BK389.out 1
        have hfz20_2:=blk_frozen BK389.out 2
        have hfz20_3:=blk_frozen BK389.out 3
        go_wp2
        go_ret
        exact Up.e1 (Up.Bx HB)
       ·rw [if_neg c19] at H
        have c19b0 : (a1_1 == 1) = false:=beq_eq_false_iff_ne.mpr c19
        have c19b1 : (a1_1 != 1) = true:=bne_iff_ne.mpr c19
        obtain rfl:=Option.some.inj H
        have hcz21_0:=Up.c0 BK389
        have hcz21_1:=Up.c1 BK389
        have hcz21_2:=Up.c2 BK389
        have hcz21_3:=Up.c3 BK389
        have hfz21_0:=blk_frozen BK389.out 0
        have hfz21_1:=blk_frozen BK389.out 1
        have hfz21_2:=blk_frozen BK389.out 2
        have hfz21_3:=blk_frozen BK389.out 3
        go_wp2
        go_ret
        exact Up.e1 (Up.Bx HB)
     ·rw [if_neg c16] at H
      have c16b0 : (a1_0.toList == ([98] : List UInt8)) = false:=beq_eq_false_iff_ne.mpr c16
      have c16b1 : (a1_0.toList != ([98] : List UInt8)) = true:=bne_iff_ne.mpr c16
      by_cases c22 : a1_0.toList = ([111] : List UInt8)
      ·rw [if_pos c22] at H
       have c22b0 : (a1_0.toList == ([111] : List UInt8)) = true:=beq_iff_eq.mpr c22
       have c22b1 : (a1_0.toList != ([111] : List UInt8)) = false:=bne_eq_false_iff_eq.mpr c22
       clear c22
       by_cases c23 : a1_1 ≥ 0
       ·rw [if_pos c23] at H
        have c23b0 : decide (0 ≤ a1_1) = true:=decide_eq_true c23
        clear c23
        by_cases c24 : a1_1 < 4
        ·rw [if_pos c24] at H
         have c24b0 : decide (a1_1 < 4) = true:=decide_eq_true c24
         clear c24
         obtain rfl:=Option.some.inj H
         have hcz25_0:=Up.c0 BK389
         have hcz25_1:=Up.c1 BK389
         have hcz25_2:=Up.c2 BK389
         have hcz25_3:=Up.c3 BK389
         have hfz25_0:=blk_frozen BK389.out 0
         have hfz25_1:=blk_frozen BK389.out 1
         have hfz25_2:=blk_frozen BK389.out 2
         have hfz25_3:=blk_frozen BK389.out 3
         go_wp2
         go_ret
         exact Up.e1 (Up.Bx HB)
        ·rw [if_neg c24] at H
         have c24b0 : decide (a1_1 < 4) = false:=decide_eq_false c24
         clear c24
         obtain rfl:=Option.some.inj H
         have hcz26_0:=Up.c0 BK389
         have hcz26_1:=Up.c1 BK389
         have hcz26_2:=Up.c2 BK389
         have hcz26_3:=Up.c3 BK389
         have hfz26_0:=blk_frozen BK389.out 0
         have hfz26_1:=blk_frozen BK389.out 1
         have hfz26_2:=blk_frozen BK389.out 2
         have hfz26_3:=blk_frozen BK389.out 3
         go_wp2
         go_ret
         exact Up.e1 (Up.Bx HB)
       ·rw [if_neg c23] at H
        have c23b0 : decide (0 ≤ a1_1) = false:=decide_eq_false c23
        clear c23
        obtain rfl:=Option.some.inj H
        have hcz27_0:=Up.c0 BK389
        have hcz27_1:=Up.c1 BK389
        have hcz27_2:=Up.c2 BK389
        have hcz27_3:=Up.c3 BK389
        have hfz27_0:=blk_frozen BK389.out 0
        have hfz27_1:=blk_frozen BK389.out 1
        have hfz27_2:=blk_frozen BK389.out 2
        have hfz27_3:=blk_frozen BK389.out 3
        go_wp2
        go_ret
        exact Up.e1 (Up.Bx HB)
      ·rw [if_neg c22] at H
       have c22b0 : (a1_0.toList == ([111] : List UInt8)) = false:=beq_eq_false_iff_ne.mpr c22
       have c22b1 : (a1_0.toList != ([111] : List UInt8)) = true:=bne_iff_ne.mpr c22
       replace H:=Option.bind_eq_some_iff.mp H
       obtain ⟨⟨t391,t392⟩,A280,H⟩:=H
       replace H : (if a1_1 = 0 then (impl_valueFits.j1 kj2 l0 t392 ((l1_2.length : Int) != (t392.length : Int)) a1_0 a1_1 l1_2 l1_3) else (impl_valueFits.j1 kj2 l0 t392 true a1_0 a1_1 l1_2 l1_3)) = some r:=H
       have A28:=Aside0.mk A280
       clear A280
       have HC29:=Aside0.mk H
       clear H
       have hcz30_0:=Up.c0 BK389
       have hcz30_1:=Up.c1 BK389
       have hcz30_2:=Up.c2 BK389
       have hcz30_3:=Up.c3 BK389
       have hfz30_0:=blk_frozen BK389.out 0
       have hfz30_1:=blk_frozen BK389.out 1
       have hfz30_2:=blk_frozen BK389.out 2
       have hfz30_3:=blk_frozen BK389.out 3
       go_upto_region 11 with (first | ((with_reducible refine gate_callee (f:=56) rfl ?_);refine Up.gl (some 72) Tryd.func56 #[.slice A0 l0.length c0,.string a1_0] ?_;(with_reducible refine (impl_recordOf.calls (fun k_ => k_ < w.heap.size) _ _ l0 a1_0 t391 t392 _ ?side1 A28.out).mono ?_);(case side1 => exact Kd.V_mk HC0.out (Kd.F_below (Kd.C_F (Kd.heap_slice 81 k81_heap) HR0.out) (Up.Bx HB)));rintro e w31 ⟨v393,rfl,ho0,hb⟩;refine ⟨_,rfl,?_⟩;have n0_:=Aside0.mk (Kd.V_lower (Kd.V_mono (ok':=fun k_ => k_ ≠ gb389) ho0 (fun k_ hk_ => Or.elim hk_ (fun hs_ => fun e_ => Nat.not_le.2 hs_ (by rw [e_];exact GW389.out)) (fun hn_ => (Kd.freshB (g:=gb389) (o:=.cells #[.string a1_0,.int .i64 a1_1,.slice A1_2 l1_2.length c1_2,.slice A1_3 l1_3.length c1_3] 27 (0,0)) (Up.Kup BK389) k_ hn_)))) (below_size (Up.Bx HB)));have n1_:=Up.KB BK389 hb;have n2_:=Aside0.mk (below_step (Up.Bx HB) hb);clear BK389 HB;have HO394:=n0_;have BK389:=n1_;have HB:=n2_;clear n0_ n1_ n2_;(try clear hb);(try clear hb2);(try clear hk);(try clear hi);(try clear ho0);(have hfl_ : ∀ w',(Instr.field 81 (.agg #[.int .i64 t391,v393]) 1).run Tryd.prog w' = .ok v393 w':=fun _ => by (obtain ⟨Av_,cv_,ev_⟩:=Kd.V_slice HO394.out;rw [ev_];kernel_rfl))))
       (try simp only [Act.put,List.setIfInBounds_toArray,List.set_cons_zero,List.set_cons_succ])
       go_cut [84] (fun v84 wc => ∃ (kq : Nat) (x84_28 : Bool),v84 = .bool x84_28 ∧ Aside0 (impl_valueFits.j1 kq l0 t392 x84_28 a1_0 a1_1 l1_2 l1_3 = some r) ∧ Aside0 (kq ≤ kj2) ∧ Aside0 (Kd.V Kd.string 9 wc w.heap.size (fun k_ => k_ ≠ gb389) v393 t392) ∧ Aside0 (wc.heap[gb389]? = some (.cells #[.string a1_0,.int .i64 a1_1,(.slice A1_2 l1_2.length c1_2),(.slice A1_3 l1_3.length c1_3)] 27 (0,0))) ∧ Aside0 (Below w.heap.size w wc))
       case first =>
        have H:=HC29.out
        clear HC29
        by_cases c32 : a1_1 = 0
        ·rw [if_pos c32] at H
         have c32b0 : (a1_1 == 0) = true:=beq_iff_eq.mpr c32
         have c32b1 : (a1_1 != 0) = false:=bne_eq_false_iff_eq.mpr c32
         clear c32
         (first | rw [c32b0] | (simp only [i64_w,i32_w];rw [c32b0]) | skip)
         have H':=Aside0.mk H
         clear H
         have hcz33_0:=Up.c0 BK389
         have hcz33_1:=Up.c1 BK389
         have hcz33_2:=Up.c2 BK389
         have hcz33_3:=Up.c3 BK389
         have hfz33_0:=blk_frozen BK389.out 0
         have hfz33_1:=blk_frozen BK389.out 1
         have hfz33_2:=blk_frozen BK389.out 2
         have hfz33_3:=blk_frozen BK389.out 3
         obtain ⟨Ao34,co34,eo34⟩:=Kd.V_slice HO394.out
         subst eo34
         go_wp2
         go_meet
         case rel => exact ⟨_,(((l1_2.length : Int) != (t392.length : Int))),(by first | rfl | (simp;done) | (simp [*];done)),H',⟨by have:=HJ2.out;first | omega | exact Nat.le_refl _⟩,⟨Up.Vup HO394⟩,⟨by (with_reducible repeat (first | refine blk_drewN ?_ _ | refine blk_drew ?_ | refine blk_alloc ?_ _));exact BK389.out⟩,⟨Up.Bx HB⟩⟩
        ·rw [if_neg c32] at H
         have c32b0 : (a1_1 == 0) = false:=beq_eq_false_iff_ne.mpr c32
         have c32b1 : (a1_1 != 0) = true:=bne_iff_ne.mpr c32
         (first | rw [c32b0] | (simp only [i64_w,i32_w];rw [c32b0]) | skip)
         have H':=Aside0.mk H
         clear H
         have hcz35_0:=Up.c0 BK389
         have hcz35_1:=Up.c1 BK389
         have hcz35_2:=Up.c2 BK389
         have hcz35_3:=Up.c3 BK389
         have hfz35_0:=blk_frozen BK389.out 0
         have hfz35_1:=blk_frozen BK389.out 1
         have hfz35_2:=blk_frozen BK389.out 2
         have hfz35_3:=blk_frozen BK389.out 3
         go_wp2
         go_meet
         case rel => exact ⟨_,(true),(by first | rfl | (simp;done) | (simp [*];done)),H',⟨by have:=HJ2.out;first | omega | exact Nat.le_refl _⟩,⟨Up.Vup HO394⟩,⟨by (with_reducible repeat (first | refine blk_drewN ?_ _ | refine blk_drew ?_ | refine blk_alloc ?_ _));exact BK389.out⟩,⟨Up.Bx HB⟩⟩
       case rest =>
        clear HC29
        try clear c1
        try clear c2
        try clear p2
        try clear c3
        try clear c5
        try clear c5b0
        try clear c5b1
        try clear c9
        try clear c10
        try clear c10b0
        try clear c10b1
        try clear c11
        try clear c11b0
        try clear c12
        try clear c12b0
        try clear c16
        try clear c16b0
        try clear c16b1
        try clear c17
        try clear c17b0
        try clear c17b1
        try clear c19
        try clear c19b0
        try clear c19b1
        try clear c22
        try clear c22b0
        try clear c22b1
        try clear c23
        try clear c23b0
        try clear c24
        try clear c24b0
        try clear c29
        try clear c32
        try clear c32b0
        try clear c32b1
        try clear hcz13_0
        try clear hcz13_1
        try clear hcz13_2
        try clear hcz13_3
        try clear hcz14_0
        try clear hcz14_1
        try clear hcz14_2
        try clear hcz14_3
        try clear hcz15_0
        try clear hcz15_1
        try clear hcz15_2
        try clear hcz15_3
        try clear hcz18_0
        try clear hcz18_1
        try clear hcz18_2
        try clear hcz18_3
        try clear hcz20_0
        try clear hcz20_1
        try clear hcz20_2
        try clear hcz20_3
        try clear hcz21_0
        try clear hcz21_1
        try clear hcz21_2
        try clear hcz21_3
        try clear hcz25_0
        try clear hcz25_1
        try clear hcz25_2
        try clear hcz25_3
        try clear hcz26_0
        try clear hcz26_1
        try clear hcz26_2
        try clear hcz26_3
        try clear hcz27_0
        try clear hcz27_1
        try clear hcz27_2
        try clear hcz27_3
        try clear hcz30_0
        try clear hcz30_1
        try clear hcz30_2
        try clear hcz30_3
        try clear hcz33_0
        try clear hcz33_1
        try clear hcz33_2
        try clear hcz33_3
        try clear hcz35_0
        try clear hcz35_1
        try clear hcz35_2
        try clear hcz35_3
        try clear hcz6_0
        try clear hcz6_1
        try clear hcz6_2
        try clear hcz6_3
        try clear hcz8_0
        try clear hcz8_1
        try clear hcz8_2
        try clear hcz8_3
        try clear hfz13_0
        try clear hfz13_1
        try clear hfz13_2
        try clear hfz13_3
        try clear hfz14_0
        try clear hfz14_1
        try clear hfz14_2
        try clear hfz14_3
        try clear hfz15_0
        try clear hfz15_1
        try clear hfz15_2
        try clear hfz15_3
        try clear hfz18_0
        try clear hfz18_1
        try clear hfz18_2
        try clear hfz18_3
        try clear hfz20_0
        try clear hfz20_1
        try clear hfz20_2
        try clear hfz20_3
        try clear hfz21_0
        try clear hfz21_1
        try clear hfz21_2
        try clear hfz21_3
        try clear hfz25_0
        try clear hfz25_1
        try clear hfz25_2
        try clear hfz25_3
        try clear hfz26_0
        try clear hfz26_1
        try clear hfz26_2
        try clear hfz26_3
        try clear hfz27_0
        try clear hfz27_1
        try clear hfz27_2
        try clear hfz27_3
        try clear hfz30_0
        try clear hfz30_1
        try clear hfz30_2
        try clear hfz30_3
        try clear hfz33_0
        try clear hfz33_1
        try clear hfz33_2
        try clear hfz33_3
        try clear hfz35_0
        try clear hfz35_1
        try clear hfz35_2
        try clear hfz35_3
        try clear hfz6_0
        try clear hfz6_1
        try clear hfz6_2
        try clear hfz6_3
        try clear hfz8_0
        try clear hfz8_1
        try clear hfz8_2
        try clear hfz8_3
        try clear p2
        obtain ⟨kq,x84_28,rfl,HA,HJ28,HO_5,BK389,HB⟩:=hcut
        cases kq with
        | zero => exact absurd HA.out (by simp [impl_valueFits.j1])
        | succ kj28 =>
         have H:=HA.out
         clear HA
         simp only [impl_valueFits.j1] at H
         by_cases c36 : x84_28 = true
         ·subst c36
          have H1 : (some false) = some r:=by rw [if_pos rfl] at H;exact H
          clear H
          have H:=H1
          clear H1
          obtain rfl:=Option.some.inj H
          go_wp2
          go_ret
          exact Up.e1 (Up.Bx HB)
         ·replace c36:=Bool.eq_false_iff.mpr c36
          subst c36
          have H1 : (impl_valueFits.l0 kj28 l0 t392 l1_2 (l1_2.length : Int) 0) = some r:=by rw [if_neg (show ¬ (false = true) by decide)] at H;exact H
          clear H
          have H:=H1
          clear H1
          have H':=Aside0.mk H
          clear H
          have hcz37_0:=Up.c0 BK389
          have hcz37_1:=Up.c1 BK389
          have hcz37_2:=Up.c2 BK389
          have hcz37_3:=Up.c3 BK389
          have hfz37_0:=blk_frozen BK389.out 0
          have hfz37_1:=blk_frozen BK389.out 1
          have hfz37_2:=blk_frozen BK389.out 2
          have hfz37_3:=blk_frozen BK389.out 3
          go_wp2
          go_loopg [88] kj28 (fun kq v88 w' => ∃ (x88_3 : Int),v88 = .int .i64 x88_3 ∧ Aside0 (impl_valueFits.l0 kq l0 t392 l1_2 (l1_2.length : Int) x88_3 = some r) ∧ Aside0 (kq ≤ kj28) ∧ Aside0 (Kd.V Kd.string 9 w' w.heap.size (fun k_ => k_ ≠ gb389) v393 t392) ∧ Aside0 (w'.heap[gb389]? = some (.cells #[.string a1_0,.int .i64 a1_1,(.slice A1_2 l1_2.length c1_2),(.slice A1_3 l1_3.length c1_3)] 27 (0,0))) ∧ Aside0 (Below w.heap.size w w'))
          case atStart => exact ⟨(0),(by first | rfl | (simp;done) | (simp [*];done)),H',⟨Nat.le_refl _⟩,⟨Up.Vup HO_5⟩,⟨by (with_reducible repeat (first | refine blk_drewN ?_ _ | refine blk_drew ?_ | refine blk_alloc ?_ _));exact BK389.out⟩,⟨Up.Bx HB⟩⟩
          case round =>
           clear H'
           try clear c1
           try clear c2
           try clear p2
           try clear c3
           try clear c5
           try clear c5b0
           try clear c5b1
           try clear c9
           try clear c10
           try clear c10b0
           try clear c10b1
           try clear c11
           try clear c11b0
           try clear c12
           try clear c12b0
           try clear c16
           try clear c16b0
           try clear c16b1
           try clear c17
           try clear c17b0
           try clear c17b1
           try clear c19
           try clear c19b0
           try clear c19b1
           try clear c22
           try clear c22b0
           try clear c22b1
           try clear c23
           try clear c23b0
           try clear c24
           try clear c24b0
           try clear c29
           try clear c32
           try clear c32b0
           try clear c32b1
           try clear c36
           try clear hcz13_0
           try clear hcz13_1
           try clear hcz13_2
           try clear hcz13_3
           try clear hcz14_0
           try clear hcz14_1
           try clear hcz14_2
           try clear hcz14_3
           try clear hcz15_0
           try clear hcz15_1
           try clear hcz15_2
           try clear hcz15_3
           try clear hcz18_0
           try clear hcz18_1
           try clear hcz18_2
           try clear hcz18_3
           try clear hcz20_0
           try clear hcz20_1
           try clear hcz20_2
           try clear hcz20_3
           try clear hcz21_0
           try clear hcz21_1
           try clear hcz21_2
           try clear hcz21_3
           try clear hcz25_0
           try clear hcz25_1
           try clear hcz25_2
           try clear hcz25_3
           try clear hcz26_0
           try clear hcz26_1
           try clear hcz26_2
           try clear hcz26_3
           try clear hcz27_0
           try clear hcz27_1
           try clear hcz27_2
           try clear hcz27_3
           try clear hcz30_0
           try clear hcz30_1
           try clear hcz30_2
           try clear hcz30_3
           try clear hcz33_0
           try clear hcz33_1
           try clear hcz33_2
           try clear hcz33_3
           try clear hcz35_0
           try clear hcz35_1
           try clear hcz35_2
           try clear hcz35_3
           try clear hcz37_0
           try clear hcz37_1
           try clear hcz37_2
           try clear hcz37_3
           try clear hcz6_0
           try clear hcz6_1
           try clear hcz6_2
           try clear hcz6_3
           try clear hcz8_0
           try clear hcz8_1
           try clear hcz8_2
           try clear hcz8_3
           try clear hfz13_0
           try clear hfz13_1
           try clear hfz13_2
           try clear hfz13_3
           try clear hfz14_0
           try clear hfz14_1
           try clear hfz14_2
           try clear hfz14_3
           try clear hfz15_0
           try clear hfz15_1
           try clear hfz15_2
           try clear hfz15_3
           try clear hfz18_0
           try clear hfz18_1
           try clear hfz18_2
           try clear hfz18_3
           try clear hfz20_0
           try clear hfz20_1
           try clear hfz20_2
           try clear hfz20_3
           try clear hfz21_0
           try clear hfz21_1
           try clear hfz21_2
           try clear hfz21_3
           try clear hfz25_0
           try clear hfz25_1
           try clear hfz25_2
           try clear hfz25_3
           try clear hfz26_0
           try clear hfz26_1
           try clear hfz26_2
           try clear hfz26_3
           try clear hfz27_0
           try clear hfz27_1
           try clear hfz27_2
           try clear hfz27_3
           try clear hfz30_0
           try clear hfz30_1
           try clear hfz30_2
           try clear hfz30_3
           try clear hfz33_0
           try clear hfz33_1
           try clear hfz33_2
           try clear hfz33_3
           try clear hfz35_0
           try clear hfz35_1
           try clear hfz35_2
           try clear hfz35_3
           try clear hfz37_0
           try clear hfz37_1
           try clear hfz37_2
           try clear hfz37_3
           try clear hfz6_0
           try clear hfz6_1
           try clear hfz6_2
           try clear hfz6_3
           try clear hfz8_0
           try clear hfz8_1
           try clear hfz8_2
           try clear hfz8_3
           try clear p2
           obtain ⟨x88_3,rfl,HA,HK3,HO_5,BK389,HB⟩:=hrel
           cases gk with
           | zero => exact absurd HA.out (by simp [impl_valueFits.l0])
           | succ k3 =>
            have H:=HA.out
            clear HA
            simp only [impl_valueFits.l0] at H
            by_cases c38 : x88_3 < (l1_2.length : Int)
            ·rw [if_pos c38] at H
             have c38b0 : decide (x88_3 < (l1_2.length : Int)) = true:=decide_eq_true c38
             clear c38
             by_cases c39 : 0 ≤ x88_3
             ·rw [if_pos c39] at H
              have c39b0 : decide (0 ≤ x88_3) = true:=decide_eq_true c39
              clear c39
              by_cases c40 : x88_3 < (l1_2.length : Int)
              ·rw [if_pos c40] at H
               have c40b0 : decide (x88_3 < (l1_2.length : Int)) = true:=decide_eq_true c40
               clear c40
               by_cases c41 : x88_3 < (t392.length : Int)
               ·rw [if_pos c41] at H
                have c41b0 : decide (x88_3 < (t392.length : Int)) = true:=decide_eq_true c41
                clear c41
                by_cases c42 : ((rd_T27 l1_2 x88_3).f0).toList = (rdOf ByteArray.empty t392 x88_3).toList
                ·rw [if_pos c42] at H
                 have c42b0 : (((rd_T27 l1_2 x88_3).f0).toList == (rdOf ByteArray.empty t392 x88_3).toList) = true:=beq_iff_eq.mpr c42
                 have c42b1 : (((rd_T27 l1_2 x88_3).f0).toList != (rdOf ByteArray.empty t392 x88_3).toList) = false:=bne_eq_false_iff_eq.mpr c42
                 clear c42
                 replace H:=Option.bind_eq_some_iff.mp H
                 obtain ⟨t398,A430,H⟩:=H
                 replace H : (if t398 = true then (impl_valueFits.l0 k3 l0 t392 l1_2 (l1_2.length : Int) (wrap64 (x88_3 + 1))) else (some false)) = some r:=H
                 have A43:=Aside0.mk A430
                 clear A430
                 by_cases c44 : t398 = true
                 ·subst c44
                  have H1 : (impl_valueFits.l0 k3 l0 t392 l1_2 (l1_2.length : Int) (wrap64 (x88_3 + 1))) = some r:=by rw [if_pos rfl] at H;exact H
                  clear H
                  have H:=H1
                  clear H1
                  have H':=Aside0.mk H
                  clear H
                  have p395 : 0 ≤ (x88_3 : Int):=Up.od
                  have q395 : x88_3 < (l1_2.length : Int):=Up.od
                  obtain ⟨ad395,A395_2,c395_2,A395_3,c395_3,e395,hx395_0,hx395_1,hx395_2,hx395_3,hl395_2,hi395_2,hl395_3,hi395_3⟩:=at_T27 HR1_2.out x88_3 p395 q395
                  cases e395
                  replace hx395_0:=Up.hc HB hx395_0
                  replace hx395_1:=Up.hc HB hx395_1
                  replace hx395_2:=Up.hc HB hx395_2
                  replace hx395_3:=Up.hc HB hx395_3
                  have HR395_2:=Aside0.mk hi395_2
                  have HC395_2:=Aside0.mk hl395_2
                  clear hi395_2 hl395_2
                  have HR395_3:=Aside0.mk hi395_3
                  have HC395_3:=Aside0.mk hl395_3
                  clear hi395_3 hl395_3
                  replace p395:=eq_true p395
                  replace q395:=eq_true q395
                  try go_wp2_with (first | ((with_reducible refine gate_dst (N:=7) rfl ?_);(try (refine gate_guard (by rfl) ?_;dsimp only));refine Up.bx 7 27 #[.string (⟨#[]⟩ : ByteArray),.int .i64 0,.slice none 0 0,.slice none 0 0] ?_;intro gb396 hg w45 hbox hb;have n0_:=Aside0.mk (Kd.V_below (Kd.V_elderB (Up.Vup HO_5) gb396 (Nat.le_of_eq hg.symm)) hb);have n1_:=Up.KB BK389 hb;have n2_:=Aside0.mk (below_step (Up.Bx HB) hb);have n3_:=Aside0.mk (hbox);have n4_:=Up.gw hg HB;have n5_:=Up.gw hg HB;have n6_:=Up.nl hg BK389;have n7_:=Up.ng hg BK389;clear HO_5 BK389 HB;have HO_5:=n0_;have BK389:=n1_;have HB:=n2_;have BK396:=n3_;have GW396:=n4_;have GE396:=n5_;have NB389_396:=n6_;have NB396_389:=n7_;clear n0_ n1_ n2_ n3_ n4_ n5_ n6_ n7_ hb hbox hg;have hnb46:=NB396_389.out;have hnc46:=NB389_396.out;have hcz47_0:=Up.c0 BK396;have hcz47_1:=Up.c1 BK396;have hcz47_2:=Up.c2 BK396;have hcz47_3:=Up.c3 BK396;have hfz47_0:=blk_frozen BK396.out 0;have hfz47_1:=blk_frozen BK396.out 1;have hfz47_2:=blk_frozen BK396.out 2;have hfz47_3:=blk_frozen BK396.out 3))
                  have n0_ : Aside0 (Kd.V Kd.string 9 ((((w45.setCell ⟨gb396,0,none⟩ (.string ((rd_T27 l1_2 x88_3).f0))).setCell ⟨gb396,1,none⟩ (.int .i64 ((rd_T27 l1_2 x88_3).f1))).setCell ⟨gb396,2,none⟩ (.slice A395_2 ((rd_T27 l1_2 x88_3).f2).length c395_2)).setCell ⟨gb396,3,none⟩ (.slice A395_3 ((rd_T27 l1_2 x88_3).f3).length c395_3)) w.heap.size (fun k_ => k_ ≠ gb389 ∧ k_ ≠ gb396) v393 t392):=⟨by (with_reducible repeat (first | apply Kd.V_alloc | apply Kd.V_drewN | apply Kd.V_drew));exact Kd.V_mono (Kd.V_far (p:=⟨gb396,3,none⟩) (Kd.V_far (p:=⟨gb396,2,none⟩) (Kd.V_far (p:=⟨gb396,1,none⟩) (Kd.V_far (p:=⟨gb396,0,none⟩) (Kd.V_mono HO_5.out (fun k_ hk => (⟨hk,hk.2⟩ : _ ∧ k_ ≠ gb396))) (fun _ hk => hk.2) (.string ((rd_T27 l1_2 x88_3).f0))) (fun _ hk => hk.2) (.int .i64 ((rd_T27 l1_2 x88_3).f1))) (fun _ hk => hk.2) (.slice A395_2 ((rd_T27 l1_2 x88_3).f2).length c395_2)) (fun _ hk => hk.2) (.slice A395_3 ((rd_T27 l1_2 x88_3).f3).length c395_3)) (fun _ hk => ⟨hk.1.1,hk.1.2⟩)⟩
                  have n1_ : Aside0 (((((w45.setCell ⟨gb396,0,none⟩ (.string ((rd_T27 l1_2 x88_3).f0))).setCell ⟨gb396,1,none⟩ (.int .i64 ((rd_T27 l1_2 x88_3).f1))).setCell ⟨gb396,2,none⟩ (.slice A395_2 ((rd_T27 l1_2 x88_3).f2).length c395_2)).setCell ⟨gb396,3,none⟩ (.slice A395_3 ((rd_T27 l1_2 x88_3).f3).length c395_3)).heap[gb389]? = some (.cells #[.string a1_0,.int .i64 a1_1,.slice (some ad395) l1_2.length c1_2,.slice A1_3 l1_3.length c1_3] 27 (0,0))):=⟨by (with_reducible repeat (first | refine blk_drewN ?_ _ | refine blk_drew ?_ | refine blk_alloc ?_ _));refine blk_far ?_ NB389_396.out _;(with_reducible repeat (first | refine blk_drewN ?_ _ | refine blk_drew ?_ | refine blk_alloc ?_ _));refine blk_far ?_ NB389_396.out _;(with_reducible repeat (first | refine blk_drewN ?_ _ | refine blk_drew ?_ | refine blk_alloc ?_ _));refine blk_far ?_ NB389_396.out _;(with_reducible repeat (first | refine blk_drewN ?_ _ | refine blk_drew ?_ | refine blk_alloc ?_ _));refine blk_far ?_ NB389_396.out _;(with_reducible repeat (first | refine blk_drewN ?_ _ | refine blk_drew ?_ | refine blk_alloc ?_ _));exact BK389.out⟩
                  have n2_ : Aside0 (((((w45.setCell ⟨gb396,0,none⟩ (.string ((rd_T27 l1_2 x88_3).f0))).setCell ⟨gb396,1,none⟩ (.int .i64 ((rd_T27 l1_2 x88_3).f1))).setCell ⟨gb396,2,none⟩ (.slice A395_2 ((rd_T27 l1_2 x88_3).f2).length c395_2)).setCell ⟨gb396,3,none⟩ (.slice A395_3 ((rd_T27 l1_2 x88_3).f3).length c395_3)).heap[gb396]? = some (.cells #[.string ((rd_T27 l1_2 x88_3).f0),.int .i64 ((rd_T27 l1_2 x88_3).f1),.slice A395_2 ((rd_T27 l1_2 x88_3).f2).length c395_2,.slice A395_3 ((rd_T27 l1_2 x88_3).f3).length c395_3] 27 (0,0))):=⟨by (with_reducible repeat (first | refine blk_drewN ?_ _ | refine blk_drew ?_ | refine blk_alloc ?_ _));refine blk_put (cs:=#[.string ((rd_T27 l1_2 x88_3).f0),.int .i64 ((rd_T27 l1_2 x88_3).f1),.slice A395_2 ((rd_T27 l1_2 x88_3).f2).length c395_2,.slice none 0 0]) ?_ 3 _ rfl;(with_reducible repeat (first | refine blk_drewN ?_ _ | refine blk_drew ?_ | refine blk_alloc ?_ _));refine blk_put (cs:=#[.string ((rd_T27 l1_2 x88_3).f0),.int .i64 ((rd_T27 l1_2 x88_3).f1),.slice none 0 0,.slice none 0 0]) ?_ 2 _ rfl;(with_reducible repeat (first | refine blk_drewN ?_ _ | refine blk_drew ?_ | refine blk_alloc ?_ _));refine blk_put (cs:=#[.string ((rd_T27 l1_2 x88_3).f0),.int .i64 0,.slice none 0 0,.slice none 0 0]) ?_ 1 _ rfl;(with_reducible repeat (first | refine blk_drewN ?_ _ | refine blk_drew ?_ | refine blk_alloc ?_ _));refine blk_put (cs:=#[.string (⟨#[]⟩ : ByteArray),.int .i64 0,.slice none 0 0,.slice none 0 0]) ?_ 0 _ rfl;(with_reducible repeat (first | refine blk_drewN ?_ _ | refine blk_drew ?_ | refine blk_alloc ?_ _));exact BK396.out⟩
                  have n3_ : Aside0 (Below w.heap.size w ((((w45.setCell ⟨gb396,0,none⟩ (.string ((rd_T27 l1_2 x88_3).f0))).setCell ⟨gb396,1,none⟩ (.int .i64 ((rd_T27 l1_2 x88_3).f1))).setCell ⟨gb396,2,none⟩ (.slice A395_2 ((rd_T27 l1_2 x88_3).f2).length c395_2)).setCell ⟨gb396,3,none⟩ (.slice A395_3 ((rd_T27 l1_2 x88_3).f3).length c395_3))):=⟨Up.Bx HB⟩
                  (try clear HO_5)
                  (try clear BK389)
                  (try clear BK396)
                  (try clear HB)
                  generalize ((((w45.setCell ⟨gb396,0,none⟩ (.string ((rd_T27 l1_2 x88_3).f0))).setCell ⟨gb396,1,none⟩ (.int .i64 ((rd_T27 l1_2 x88_3).f1))).setCell ⟨gb396,2,none⟩ (.slice A395_2 ((rd_T27 l1_2 x88_3).f2).length c395_2)).setCell ⟨gb396,3,none⟩ (.slice A395_3 ((rd_T27 l1_2 x88_3).f3).length c395_3)) = w48 at n0_ n1_ n2_ n3_ ⊢
                  have HO_5:=n0_
                  have BK389:=n1_
                  have BK396:=n2_
                  have HB:=n3_
                  clear n0_ n1_ n2_ n3_
                  have n0_:=Aside0.mk (Kd.V_drew HO_5.out)
                  have n1_:=Aside0.mk (blk_drew BK389.out)
                  have n2_:=Aside0.mk (blk_drew BK396.out)
                  have n3_:=Aside0.mk (below_drew1 HB.out)
                  clear HO_5
                  clear BK389
                  clear BK396
                  clear HB
                  have HO_5:=n0_
                  have BK389:=n1_
                  have BK396:=n2_
                  have HB:=n3_
                  clear n0_ n1_ n2_ n3_
                  obtain ⟨Ao50,co50,eo50⟩:=Kd.V_slice HO_5.out
                  (first | subst eo50 | (injection eo50 with f1_ f2_ f3_;have f4_:=f1_.symm;have f5_:=f3_.symm;clear f1_ f2_ f3_;subst f4_;subst f5_))
                  have p397 : 0 ≤ (x88_3 : Int):=Up.od
                  have q397 : x88_3 < (t392.length : Int):=Up.od
                  obtain ⟨ad397,e397,hx397_0⟩:=Kd.at_string (Kd.V_reads' HO_5.out).2.2 x88_3 p397 q397
                  cases e397
                  replace p397:=eq_true p397
                  replace q397:=eq_true q397
                  refine start_ (n:=13) (S:=fun w' => w'.cell? ⟨gb396,0,none⟩ = some (.string ((rd_T27 l1_2 x88_3).f0)) ∧ w'.cell? ⟨gb396,1,none⟩ = some (.int .i64 ((rd_T27 l1_2 x88_3).f1)) ∧ w'.cell? ⟨gb396,2,none⟩ = some (.slice A395_2 ((rd_T27 l1_2 x88_3).f2).length c395_2) ∧ w'.cell? ⟨gb396,3,none⟩ = some (.slice A395_3 ((rd_T27 l1_2 x88_3).f3).length c395_3) ∧ w'.cell? (ad397.add (x88_3).toNat) = some (.string (rdOf ByteArray.empty t392 x88_3))) (ds:=[]) #[false,false,false,false,false,false,false,false,false,false,false,false,false] (by kernel_rfl) rfl rfl ⟨Up.c0 BK396,Up.c1 BK396,Up.c2 BK396,Up.c3 BK396,hx397_0⟩ (fun hHeld => ?_);refine with_tabW impl_valueFits.tab16 impl_valueFits.bits16 (fun HT_ HW_ => ?_)
                  generalize w48.drew = w49 at HO_5 BK389 BK396 HB hx397_0 hHeld ⊢
                  refine Up.pu 0 (some 93) HT_ ?_
                  refine Up.pu 2 (some 95) HT_ ?_
                  refine Up.pu 3 (some 96) HT_ ?_
                  refine Up.pu 4 (some 97) HT_ ?_
                  refine Up.tk 1 (some 94) HT_ HW_ hHeld ?_ (hy:=by rintro w' ⟨s0,s1,s2,s3,s4⟩;go_simp;with_reducible rfl)
                  refine Up.tk 5 (some 98) HT_ HW_ hHeld ?_ (hy:=by rintro w' ⟨s0,s1,s2,s3,s4⟩;go_simp;with_reducible rfl)
                  refine Up.pu 6 (some 99) HT_ ?_
                  refine Up.pu 7 (some 100) HT_ ?_
                  refine Up.pu 8 (some 101) HT_ ?_
                  refine Up.tk 9 (some 102) HT_ HW_ hHeld ?_ (hy:=by rintro w' ⟨s0,s1,s2,s3,s4⟩;go_simp;with_reducible rfl)
                  refine Up.on 10 (some 103) HT_ (fun K hK => ?_)
                  refine Up.go Tryd.func29 #[.slice A0 l0.length c0,.agg #[.string ((rd_T27 l1_2 x88_3).f0),.int .i64 ((rd_T27 l1_2 x88_3).f1),.slice A395_2 ((rd_T27 l1_2 x88_3).f2).length c395_2,.slice A395_3 ((rd_T27 l1_2 x88_3).f3).length c395_3]] ?_
                  with_reducible refine (ih k3 (by have:=HJ2.out;have:=HJ28.out;have:=HK3.out;omega) _ _ l0 ((rd_T27 l1_2 x88_3).f0) ((rd_T27 l1_2 x88_3).f1) _ _ ((rd_T27 l1_2 x88_3).f2) _ _ ((rd_T27 l1_2 x88_3).f3) true _ ?side1 ?side2 ?side3 ?side4 ?side5 ?side6 A43.out).mono ?_
                  (case side1 => exact Up.Cx HR0 HB)
                  (case side2 => exact HC0.out)
                  (case side3 => exact Up.Cx HR395_2 HB)
                  (case side4 => exact HC395_2.out)
                  (case side5 => exact Up.Cx HR395_3 HB)
                  (case side6 => exact HC395_3.out)
                  rintro e w51 ⟨rfl,hb⟩
                  have HS4_:=(hb.cell (World.block_lt_of_cell? _ _ (hHeld.2.2.2.2))).trans (hHeld.2.2.2.2)
                  refine ⟨_,rfl,?_⟩
                  have n0_:=Up.VB HO_5 hb
                  have n1_:=Up.KB BK389 hb
                  have n2_:=Up.KB BK396 hb
                  have n3_:=Aside0.mk (below_step (Up.Bx HB) hb)
                  clear HO_5
                  clear BK389
                  clear BK396
                  clear HB
                  have HO_5:=n0_
                  have BK389:=n1_
                  have BK396:=n2_
                  have HB:=n3_
                  clear n0_ n1_ n2_ n3_
                  (try clear hb)
                  (try clear hb2)
                  (try clear hk)
                  (try clear hi)
                  refine hK.out _ _ ⟨Up.c0 BK396,Up.c1 BK396,Up.c2 BK396,Up.c3 BK396,HS4_⟩ (fun hHeld => ?_)
                  clear hK K
                  refine Up.nm 103 ?_
                  refine Up.pu 11 (some 104) HT_ ?_
                  refine Up.pu 12 (some 105) HT_ ?_
                  refine done_ (done_of HT_.out (by kernel_rfl)) ?_
                  try go_wp2
                  go_roundg k3
                  case measure => have:=HJ2.out;have:=HJ28.out;have:=HK3.out;omega
                  case rel => exact ⟨(wrap64 (x88_3 + 1)),(by first | rfl | (simp;done) | (simp [*];done)),H',⟨by have:=HJ2.out;have:=HJ28.out;have:=HK3.out;omega⟩,⟨by (with_reducible repeat (first | apply Kd.V_alloc | apply Kd.V_drewN | apply Kd.V_drew));exact Kd.V_mono HO_5.out (fun _ hk => hk.1)⟩,⟨by (with_reducible repeat (first | refine blk_drewN ?_ _ | refine blk_drew ?_ | refine blk_alloc ?_ _));exact BK389.out⟩,⟨Up.Bx HB⟩⟩
                 ·replace c44:=Bool.eq_false_iff.mpr c44
                  subst c44
                  have H1 : (some false) = some r:=by rw [if_neg (show ¬ (false = true) by decide)] at H;exact H
                  clear H
                  have H:=H1
                  clear H1
                  obtain rfl:=Option.some.inj H
                  have p395 : 0 ≤ (x88_3 : Int):=Up.od
                  have q395 : x88_3 < (l1_2.length : Int):=Up.od
                  obtain ⟨ad395,A395_2,c395_2,A395_3,c395_3,e395,hx395_0,hx395_1,hx395_2,hx395_3,hl395_2,hi395_2,hl395_3,hi395_3⟩:=at_T27 HR1_2.out x88_3 p395 q395
                  cases e395
                  replace hx395_0:=Up.hc HB hx395_0
                  replace hx395_1:=Up.hc HB hx395_1
                  replace hx395_2:=Up.hc HB hx395_2
                  replace hx395_3:=Up.hc HB hx395_3
                  have HR395_2:=Aside0.mk hi395_2
                  have HC395_2:=Aside0.mk hl395_2
                  clear hi395_2 hl395_2
                  have HR395_3:=Aside0.mk hi395_3
                  have HC395_3:=Aside0.mk hl395_3
                  clear hi395_3 hl395_3
                  replace p395:=eq_true p395
                  replace q395:=eq_true q395
                  try go_wp2_with (first | ((with_reducible refine gate_dst (N:=7) rfl ?_);(try (refine gate_guard (by rfl) ?_;dsimp only));refine Up.bx 7 27 #[.string (⟨#[]⟩ : ByteArray),.int .i64 0,.slice none 0 0,.slice none 0 0] ?_;intro gb396 hg w52 hbox hb;have n0_:=Aside0.mk (Kd.V_below (Kd.V_elderB (Up.Vup HO_5) gb396 (Nat.le_of_eq hg.symm)) hb);have n1_:=Up.KB BK389 hb;have n2_:=Aside0.mk (below_step (Up.Bx HB) hb);have n3_:=Aside0.mk (hbox);have n4_:=Up.gw hg HB;have n5_:=Up.gw hg HB;have n6_:=Up.nl hg BK389;have n7_:=Up.ng hg BK389;clear HO_5 BK389 HB;have HO_5:=n0_;have BK389:=n1_;have HB:=n2_;have BK396:=n3_;have GW396:=n4_;have GE396:=n5_;have NB389_396:=n6_;have NB396_389:=n7_;clear n0_ n1_ n2_ n3_ n4_ n5_ n6_ n7_ hb hbox hg;have hnb53:=NB396_389.out;have hnc53:=NB389_396.out;have hcz54_0:=Up.c0 BK396;have hcz54_1:=Up.c1 BK396;have hcz54_2:=Up.c2 BK396;have hcz54_3:=Up.c3 BK396;have hfz54_0:=blk_frozen BK396.out 0;have hfz54_1:=blk_frozen BK396.out 1;have hfz54_2:=blk_frozen BK396.out 2;have hfz54_3:=blk_frozen BK396.out 3))
                  have n0_ : Aside0 (Kd.V Kd.string 9 ((((w52.setCell ⟨gb396,0,none⟩ (.string ((rd_T27 l1_2 x88_3).f0))).setCell ⟨gb396,1,none⟩ (.int .i64 ((rd_T27 l1_2 x88_3).f1))).setCell ⟨gb396,2,none⟩ (.slice A395_2 ((rd_T27 l1_2 x88_3).f2).length c395_2)).setCell ⟨gb396,3,none⟩ (.slice A395_3 ((rd_T27 l1_2 x88_3).f3).length c395_3)) w.heap.size (fun k_ => k_ ≠ gb389 ∧ k_ ≠ gb396) v393 t392):=⟨by (with_reducible repeat (first | apply Kd.V_alloc | apply Kd.V_drewN | apply Kd.V_drew));exact Kd.V_mono (Kd.V_far (p:=⟨gb396,3,none⟩) (Kd.V_far (p:=⟨gb396,2,none⟩) (Kd.V_far (p:=⟨gb396,1,none⟩) (Kd.V_far (p:=⟨gb396,0,none⟩) (Kd.V_mono HO_5.out (fun k_ hk => (⟨hk,hk.2⟩ : _ ∧ k_ ≠ gb396))) (fun _ hk => hk.2) (.string ((rd_T27 l1_2 x88_3).f0))) (fun _ hk => hk.2) (.int .i64 ((rd_T27 l1_2 x88_3).f1))) (fun _ hk => hk.2) (.slice A395_2 ((rd_T27 l1_2 x88_3).f2).length c395_2)) (fun _ hk => hk.2) (.slice A395_3 ((rd_T27 l1_2 x88_3).f3).length c395_3)) (fun _ hk => ⟨hk.1.1,hk.1.2⟩)⟩
                  have n1_ : Aside0 (((((w52.setCell ⟨gb396,0,none⟩ (.string ((rd_T27 l1_2 x88_3).f0))).setCell ⟨gb396,1,none⟩ (.int .i64 ((rd_T27 l1_2 x88_3).f1))).setCell ⟨gb396,2,none⟩ (.slice A395_2 ((rd_T27 l1_2 x88_3).f2).length c395_2)).setCell ⟨gb396,3,none⟩ (.slice A395_3 ((rd_T27 l1_2 x88_3).f3).length c395_3)).heap[gb389]? = some (.cells #[.string a1_0,.int .i64 a1_1,.slice (some ad395) l1_2.length c1_2,.slice A1_3 l1_3.length c1_3] 27 (0,0))):=⟨by (with_reducible repeat (first | refine blk_drewN ?_ _ | refine blk_drew ?_ | refine blk_alloc ?_ _));refine blk_far ?_ NB389_396.out _;(with_reducible repeat (first | refine blk_drewN ?_ _ | refine blk_drew ?_ | refine blk_alloc ?_ _));refine blk_far ?_ NB389_396.out _;(with_reducible repeat (first | refine blk_drewN ?_ _ | refine blk_drew ?_ | refine blk_alloc ?_ _));refine blk_far ?_ NB389_396.out _;(with_reducible repeat (first | refine blk_drewN ?_ _ | refine blk_drew ?_ | refine blk_alloc ?_ _));refine blk_far ?_ NB389_396.out _;(with_reducible repeat (first | refine blk_drewN ?_ _ | refine blk_drew ?_ | refine blk_alloc ?_ _));exact BK389.out⟩
                  have n2_ : Aside0 (((((w52.setCell ⟨gb396,0,none⟩ (.string ((rd_T27 l1_2 x88_3).f0))).setCell ⟨gb396,1,none⟩ (.int .i64 ((rd_T27 l1_2 x88_3).f1))).setCell ⟨gb396,2,none⟩ (.slice A395_2 ((rd_T27 l1_2 x88_3).f2).length c395_2)).setCell ⟨gb396,3,none⟩ (.slice A395_3 ((rd_T27 l1_2 x88_3).f3).length c395_3)).heap[gb396]? = some (.cells #[.string ((rd_T27 l1_2 x88_3).f0),.int .i64 ((rd_T27 l1_2 x88_3).f1),.slice A395_2 ((rd_T27 l1_2 x88_3).f2).length c395_2,.slice A395_3 ((rd_T27 l1_2 x88_3).f3).length c395_3] 27 (0,0))):=⟨by (with_reducible repeat (first | refine blk_drewN ?_ _ | refine blk_drew ?_ | refine blk_alloc ?_ _));refine blk_put (cs:=#[.string ((rd_T27 l1_2 x88_3).f0),.int .i64 ((rd_T27 l1_2 x88_3).f1),.slice A395_2 ((rd_T27 l1_2 x88_3).f2).length c395_2,.slice none 0 0]) ?_ 3 _ rfl;(with_reducible repeat (first | refine blk_drewN ?_ _ | refine blk_drew ?_ | refine blk_alloc ?_ _));refine blk_put (cs:=#[.string ((rd_T27 l1_2 x88_3).f0),.int .i64 ((rd_T27 l1_2 x88_3).f1),.slice none 0 0,.slice none 0 0]) ?_ 2 _ rfl;(with_reducible repeat (first | refine blk_drewN ?_ _ | refine blk_drew ?_ | refine blk_alloc ?_ _));refine blk_put (cs:=#[.string ((rd_T27 l1_2 x88_3).f0),.int .i64 0,.slice none 0 0,.slice none 0 0]) ?_ 1 _ rfl;(with_reducible repeat (first | refine blk_drewN ?_ _ | refine blk_drew ?_ | refine blk_alloc ?_ _));refine blk_put (cs:=#[.string (⟨#[]⟩ : ByteArray),.int .i64 0,.slice none 0 0,.slice none 0 0]) ?_ 0 _ rfl;(with_reducible repeat (first | refine blk_drewN ?_ _ | refine blk_drew ?_ | refine blk_alloc ?_ _));exact BK396.out⟩
                  have n3_ : Aside0 (Below w.heap.size w ((((w52.setCell ⟨gb396,0,none⟩ (.string ((rd_T27 l1_2 x88_3).f0))).setCell ⟨gb396,1,none⟩ (.int .i64 ((rd_T27 l1_2 x88_3).f1))).setCell ⟨gb396,2,none⟩ (.slice A395_2 ((rd_T27 l1_2 x88_3).f2).length c395_2)).setCell ⟨gb396,3,none⟩ (.slice A395_3 ((rd_T27 l1_2 x88_3).f3).length c395_3))):=⟨Up.Bx HB⟩
                  (try clear HO_5)
                  (try clear BK389)
                  (try clear BK396)
                  (try clear HB)
                  generalize ((((w52.setCell ⟨gb396,0,none⟩ (.string ((rd_T27 l1_2 x88_3).f0))).setCell ⟨gb396,1,none⟩ (.int .i64 ((rd_T27 l1_2 x88_3).f1))).setCell ⟨gb396,2,none⟩ (.slice A395_2 ((rd_T27 l1_2 x88_3).f2).length c395_2)).setCell ⟨gb396,3,none⟩ (.slice A395_3 ((rd_T27 l1_2 x88_3).f3).length c395_3)) = w55 at n0_ n1_ n2_ n3_ ⊢
                  have HO_5:=n0_
                  have BK389:=n1_
                  have BK396:=n2_
                  have HB:=n3_
                  clear n0_ n1_ n2_ n3_
                  have n0_:=Aside0.mk (Kd.V_drew HO_5.out)
                  have n1_:=Aside0.mk (blk_drew BK389.out)
                  have n2_:=Aside0.mk (blk_drew BK396.out)
                  have n3_:=Aside0.mk (below_drew1 HB.out)
                  clear HO_5
                  clear BK389
                  clear BK396
                  clear HB
                  have HO_5:=n0_
                  have BK389:=n1_
                  have BK396:=n2_
                  have HB:=n3_
                  clear n0_ n1_ n2_ n3_
                  obtain ⟨Ao57,co57,eo57⟩:=Kd.V_slice HO_5.out
                  (first | subst eo57 | (injection eo57 with f1_ f2_ f3_;have f4_:=f1_.symm;have f5_:=f3_.symm;clear f1_ f2_ f3_;subst f4_;subst f5_))
                  have p397 : 0 ≤ (x88_3 : Int):=Up.od
                  have q397 : x88_3 < (t392.length : Int):=Up.od
                  obtain ⟨ad397,e397,hx397_0⟩:=Kd.at_string (Kd.V_reads' HO_5.out).2.2 x88_3 p397 q397
                  cases e397
                  replace p397:=eq_true p397
                  replace q397:=eq_true q397
                  refine start_ (n:=13) (S:=fun w' => w'.cell? ⟨gb396,0,none⟩ = some (.string ((rd_T27 l1_2 x88_3).f0)) ∧ w'.cell? ⟨gb396,1,none⟩ = some (.int .i64 ((rd_T27 l1_2 x88_3).f1)) ∧ w'.cell? ⟨gb396,2,none⟩ = some (.slice A395_2 ((rd_T27 l1_2 x88_3).f2).length c395_2) ∧ w'.cell? ⟨gb396,3,none⟩ = some (.slice A395_3 ((rd_T27 l1_2 x88_3).f3).length c395_3) ∧ w'.cell? (ad397.add (x88_3).toNat) = some (.string (rdOf ByteArray.empty t392 x88_3))) (ds:=[]) #[false,false,false,false,false,false,false,false,false,false,false,false,false] (by kernel_rfl) rfl rfl ⟨Up.c0 BK396,Up.c1 BK396,Up.c2 BK396,Up.c3 BK396,hx397_0⟩ (fun hHeld => ?_);refine with_tabW impl_valueFits.tab16 impl_valueFits.bits16 (fun HT_ HW_ => ?_)
                  generalize w55.drew = w56 at HO_5 BK389 BK396 HB hx397_0 hHeld ⊢
                  refine Up.pu 0 (some 93) HT_ ?_
                  refine Up.pu 2 (some 95) HT_ ?_
                  refine Up.pu 3 (some 96) HT_ ?_
                  refine Up.pu 4 (some 97) HT_ ?_
                  refine Up.tk 1 (some 94) HT_ HW_ hHeld ?_ (hy:=by rintro w' ⟨s0,s1,s2,s3,s4⟩;go_simp;with_reducible rfl)
                  refine Up.tk 5 (some 98) HT_ HW_ hHeld ?_ (hy:=by rintro w' ⟨s0,s1,s2,s3,s4⟩;go_simp;with_reducible rfl)
                  refine Up.pu 6 (some 99) HT_ ?_
                  refine Up.pu 7 (some 100) HT_ ?_
                  refine Up.pu 8 (some 101) HT_ ?_
                  refine Up.tk 9 (some 102) HT_ HW_ hHeld ?_ (hy:=by rintro w' ⟨s0,s1,s2,s3,s4⟩;go_simp;with_reducible rfl)
                  refine Up.on 10 (some 103) HT_ (fun K hK => ?_)
                  refine Up.go Tryd.func29 #[.slice A0 l0.length c0,.agg #[.string ((rd_T27 l1_2 x88_3).f0),.int .i64 ((rd_T27 l1_2 x88_3).f1),.slice A395_2 ((rd_T27 l1_2 x88_3).f2).length c395_2,.slice A395_3 ((rd_T27 l1_2 x88_3).f3).length c395_3]] ?_
                  with_reducible refine (ih k3 (by have:=HJ2.out;have:=HJ28.out;have:=HK3.out;omega) _ _ l0 ((rd_T27 l1_2 x88_3).f0) ((rd_T27 l1_2 x88_3).f1) _ _ ((rd_T27 l1_2 x88_3).f2) _ _ ((rd_T27 l1_2 x88_3).f3) false _ ?side1 ?side2 ?side3 ?side4 ?side5 ?side6 A43.out).mono ?_
                  (case side1 => exact Up.Cx HR0 HB)
                  (case side2 => exact HC0.out)
                  (case side3 => exact Up.Cx HR395_2 HB)
                  (case side4 => exact HC395_2.out)
                  (case side5 => exact Up.Cx HR395_3 HB)
                  (case side6 => exact HC395_3.out)
                  rintro e w58 ⟨rfl,hb⟩
                  have HS4_:=(hb.cell (World.block_lt_of_cell? _ _ (hHeld.2.2.2.2))).trans (hHeld.2.2.2.2)
                  refine ⟨_,rfl,?_⟩
                  have n0_:=Up.VB HO_5 hb
                  have n1_:=Up.KB BK389 hb
                  have n2_:=Up.KB BK396 hb
                  have n3_:=Aside0.mk (below_step (Up.Bx HB) hb)
                  clear HO_5
                  clear BK389
                  clear BK396
                  clear HB
                  have HO_5:=n0_
                  have BK389:=n1_
                  have BK396:=n2_
                  have HB:=n3_
                  clear n0_ n1_ n2_ n3_
                  (try clear hb)
                  (try clear hb2)
                  (try clear hk)
                  (try clear hi)
                  refine hK.out _ _ ⟨Up.c0 BK396,Up.c1 BK396,Up.c2 BK396,Up.c3 BK396,HS4_⟩ (fun hHeld => ?_)
                  clear hK K
                  refine Up.nm 103 ?_
                  refine Up.pu 11 (some 104) HT_ ?_
                  refine Up.pu 12 (some 105) HT_ ?_
                  refine done_ (done_of HT_.out (by kernel_rfl)) ?_
                  try go_wp2
                  go_ret
                  exact Up.e1 (Up.Bx HB)
                ·rw [if_neg c42] at H
                 have c42b0 : (((rd_T27 l1_2 x88_3).f0).toList == (rdOf ByteArray.empty t392 x88_3).toList) = false:=beq_eq_false_iff_ne.mpr c42
                 have c42b1 : (((rd_T27 l1_2 x88_3).f0).toList != (rdOf ByteArray.empty t392 x88_3).toList) = true:=bne_iff_ne.mpr c42
                 obtain rfl:=Option.some.inj H
                 have p395 : 0 ≤ (x88_3 : Int):=Up.od
                 have q395 : x88_3 < (l1_2.length : Int):=Up.od
                 obtain ⟨ad395,A395_2,c395_2,A395_3,c395_3,e395,hx395_0,hx395_1,hx395_2,hx395_3,hl395_2,hi395_2,hl395_3,hi395_3⟩:=at_T27 HR1_2.out x88_3 p395 q395
                 cases e395
                 replace hx395_0:=Up.hc HB hx395_0
                 replace hx395_1:=Up.hc HB hx395_1
                 replace hx395_2:=Up.hc HB hx395_2
                 replace hx395_3:=Up.hc HB hx395_3
                 have HR395_2:=Aside0.mk hi395_2
                 have HC395_2:=Aside0.mk hl395_2
                 clear hi395_2 hl395_2
                 have HR395_3:=Aside0.mk hi395_3
                 have HC395_3:=Aside0.mk hl395_3
                 clear hi395_3 hl395_3
                 replace p395:=eq_true p395
                 replace q395:=eq_true q395
                 try go_wp2_with (first | ((with_reducible refine gate_dst (N:=7) rfl ?_);(try (refine gate_guard (by rfl) ?_;dsimp only));refine Up.bx 7 27 #[.string (⟨#[]⟩ : ByteArray),.int .i64 0,.slice none 0 0,.slice none 0 0] ?_;intro gb396 hg w59 hbox hb;have n0_:=Aside0.mk (Kd.V_below (Kd.V_elderB (Up.Vup HO_5) gb396 (Nat.le_of_eq hg.symm)) hb);have n1_:=Up.KB BK389 hb;have n2_:=Aside0.mk (below_step (Up.Bx HB) hb);have n3_:=Aside0.mk (hbox);have n4_:=Up.gw hg HB;have n5_:=Up.gw hg HB;have n6_:=Up.nl hg BK389;have n7_:=Up.ng hg BK389;clear HO_5 BK389 HB;have HO_5:=n0_;have BK389:=n1_;have HB:=n2_;have BK396:=n3_;have GW396:=n4_;have GE396:=n5_;have NB389_396:=n6_;have NB396_389:=n7_;clear n0_ n1_ n2_ n3_ n4_ n5_ n6_ n7_ hb hbox hg;have hnb60:=NB396_389.out;have hnc60:=NB389_396.out;have hcz61_0:=Up.c0 BK396;have hcz61_1:=Up.c1 BK396;have hcz61_2:=Up.c2 BK396;have hcz61_3:=Up.c3 BK396;have hfz61_0:=blk_frozen BK396.out 0;have hfz61_1:=blk_frozen BK396.out 1;have hfz61_2:=blk_frozen BK396.out 2;have hfz61_3:=blk_frozen BK396.out 3))
                 have n0_ : Aside0 (Kd.V Kd.string 9 ((((w59.setCell ⟨gb396,0,none⟩ (.string ((rd_T27 l1_2 x88_3).f0))).setCell ⟨gb396,1,none⟩ (.int .i64 ((rd_T27 l1_2 x88_3).f1))).setCell ⟨gb396,2,none⟩ (.slice A395_2 ((rd_T27 l1_2 x88_3).f2).length c395_2)).setCell ⟨gb396,3,none⟩ (.slice A395_3 ((rd_T27 l1_2 x88_3).f3).length c395_3)) w.heap.size (fun k_ => k_ ≠ gb389 ∧ k_ ≠ gb396) v393 t392):=⟨by (with_reducible repeat (first | apply Kd.V_alloc | apply Kd.V_drewN | apply Kd.V_drew));exact Kd.V_mono (Kd.V_far (p:=⟨gb396,3,none⟩) (Kd.V_far (p:=⟨gb396,2,none⟩) (Kd.V_far (p:=⟨gb396,1,none⟩) (Kd.V_far (p:=⟨gb396,0,none⟩) (Kd.V_mono HO_5.out (fun k_ hk => (⟨hk,hk.2⟩ : _ ∧ k_ ≠ gb396))) (fun _ hk => hk.2) (.string ((rd_T27 l1_2 x88_3).f0))) (fun _ hk => hk.2) (.int .i64 ((rd_T27 l1_2 x88_3).f1))) (fun _ hk => hk.2) (.slice A395_2 ((rd_T27 l1_2 x88_3).f2).length c395_2)) (fun _ hk => hk.2) (.slice A395_3 ((rd_T27 l1_2 x88_3).f3).length c395_3)) (fun _ hk => ⟨hk.1.1,hk.1.2⟩)⟩
                 have n1_ : Aside0 (((((w59.setCell ⟨gb396,0,none⟩ (.string ((rd_T27 l1_2 x88_3).f0))).setCell ⟨gb396,1,none⟩ (.int .i64 ((rd_T27 l1_2 x88_3).f1))).setCell ⟨gb396,2,none⟩ (.slice A395_2 ((rd_T27 l1_2 x88_3).f2).length c395_2)).setCell ⟨gb396,3,none⟩ (.slice A395_3 ((rd_T27 l1_2 x88_3).f3).length c395_3)).heap[gb389]? = some (.cells #[.string a1_0,.int .i64 a1_1,.slice (some ad395) l1_2.length c1_2,.slice A1_3 l1_3.length c1_3] 27 (0,0))):=⟨by (with_reducible repeat (first | refine blk_drewN ?_ _ | refine blk_drew ?_ | refine blk_alloc ?_ _));refine blk_far ?_ NB389_396.out _;(with_reducible repeat (first | refine blk_drewN ?_ _ | refine blk_drew ?_ | refine blk_alloc ?_ _));refine blk_far ?_ NB389_396.out _;(with_reducible repeat (first | refine blk_drewN ?_ _ | refine blk_drew ?_ | refine blk_alloc ?_ _));refine blk_far ?_ NB389_396.out _;(with_reducible repeat (first | refine blk_drewN ?_ _ | refine blk_drew ?_ | refine blk_alloc ?_ _));refine blk_far ?_ NB389_396.out _;(with_reducible repeat (first | refine blk_drewN ?_ _ | refine blk_drew ?_ | refine blk_alloc ?_ _));exact BK389.out⟩
                 have n2_ : Aside0 (((((w59.setCell ⟨gb396,0,none⟩ (.string ((rd_T27 l1_2 x88_3).f0))).setCell ⟨gb396,1,none⟩ (.int .i64 ((rd_T27 l1_2 x88_3).f1))).setCell ⟨gb396,2,none⟩ (.slice A395_2 ((rd_T27 l1_2 x88_3).f2).length c395_2)).setCell ⟨gb396,3,none⟩ (.slice A395_3 ((rd_T27 l1_2 x88_3).f3).length c395_3)).heap[gb396]? = some (.cells #[.string ((rd_T27 l1_2 x88_3).f0),.int .i64 ((rd_T27 l1_2 x88_3).f1),.slice A395_2 ((rd_T27 l1_2 x88_3).f2).length c395_2,.slice A395_3 ((rd_T27 l1_2 x88_3).f3).length c395_3] 27 (0,0))):=⟨by (with_reducible repeat (first | refine blk_drewN ?_ _ | refine blk_drew ?_ | refine blk_alloc ?_ _));refine blk_put (cs:=#[.string ((rd_T27 l1_2 x88_3).f0),.int .i64 ((rd_T27 l1_2 x88_3).f1),.slice A395_2 ((rd_T27 l1_2 x88_3).f2).length c395_2,.slice none 0 0]) ?_ 3 _ rfl;(with_reducible repeat (first | refine blk_drewN ?_ _ | refine blk_drew ?_ | refine blk_alloc ?_ _));refine blk_put (cs:=#[.string ((rd_T27 l1_2 x88_3).f0),.int .i64 ((rd_T27 l1_2 x88_3).f1),.slice none 0 0,.slice none 0 0]) ?_ 2 _ rfl;(with_reducible repeat (first | refine blk_drewN ?_ _ | refine blk_drew ?_ | refine blk_alloc ?_ _));refine blk_put (cs:=#[.string ((rd_T27 l1_2 x88_3).f0),.int .i64 0,.slice none 0 0,.slice none 0 0]) ?_ 1 _ rfl;(with_reducible repeat (first | refine blk_drewN ?_ _ | refine blk_drew ?_ | refine blk_alloc ?_ _));refine blk_put (cs:=#[.string (⟨#[]⟩ : ByteArray),.int .i64 0,.slice none 0 0,.slice none 0 0]) ?_ 0 _ rfl;(with_reducible repeat (first | refine blk_drewN ?_ _ | refine blk_drew ?_ | refine blk_alloc ?_ _));exact BK396.out⟩
                 have n3_ : Aside0 (Below w.heap.size w ((((w59.setCell ⟨gb396,0,none⟩ (.string ((rd_T27 l1_2 x88_3).f0))).setCell ⟨gb396,1,none⟩ (.int .i64 ((rd_T27 l1_2 x88_3).f1))).setCell ⟨gb396,2,none⟩ (.slice A395_2 ((rd_T27 l1_2 x88_3).f2).length c395_2)).setCell ⟨gb396,3,none⟩ (.slice A395_3 ((rd_T27 l1_2 x88_3).f3).length c395_3))):=⟨Up.Bx HB⟩
                 (try clear HO_5)
                 (try clear BK389)
                 (try clear BK396)
                 (try clear HB)
                 generalize ((((w59.setCell ⟨gb396,0,none⟩ (.string ((rd_T27 l1_2 x88_3).f0))).setCell ⟨gb396,1,none⟩ (.int .i64 ((rd_T27 l1_2 x88_3).f1))).setCell ⟨gb396,2,none⟩ (.slice A395_2 ((rd_T27 l1_2 x88_3).f2).length c395_2)).setCell ⟨gb396,3,none⟩ (.slice A395_3 ((rd_T27 l1_2 x88_3).f3).length c395_3)) = w62 at n0_ n1_ n2_ n3_ ⊢
                 have HO_5:=n0_
                 have BK389:=n1_
                 have BK396:=n2_
                 have HB:=n3_
                 clear n0_ n1_ n2_ n3_
                 have n0_:=Aside0.mk (Kd.V_drew HO_5.out)
                 have n1_:=Aside0.mk (blk_drew BK389.out)
                 have n2_:=Aside0.mk (blk_drew BK396.out)
                 have n3_:=Aside0.mk (below_drew1 HB.out)
                 clear HO_5
                 clear BK389
                 clear BK396
                 clear HB
                 have HO_5:=n0_
                 have BK389:=n1_
                 have BK396:=n2_
                 have HB:=n3_
                 clear n0_ n1_ n2_ n3_
                 obtain ⟨Ao64,co64,eo64⟩:=Kd.V_slice HO_5.out
                 (first | subst eo64 | (injection eo64 with f1_ f2_ f3_;have f4_:=f1_.symm;have f5_:=f3_.symm;clear f1_ f2_ f3_;subst f4_;subst f5_))
                 have p397 : 0 ≤ (x88_3 : Int):=Up.od
                 have q397 : x88_3 < (t392.length : Int):=Up.od
                 obtain ⟨ad397,e397,hx397_0⟩:=Kd.at_string (Kd.V_reads' HO_5.out).2.2 x88_3 p397 q397
                 cases e397
                 replace p397:=eq_true p397
                 replace q397:=eq_true q397
                 refine start_ (n:=13) (S:=fun w' => w'.cell? ⟨gb396,0,none⟩ = some (.string ((rd_T27 l1_2 x88_3).f0)) ∧ w'.cell? ⟨gb396,1,none⟩ = some (.int .i64 ((rd_T27 l1_2 x88_3).f1)) ∧ w'.cell? ⟨gb396,2,none⟩ = some (.slice A395_2 ((rd_T27 l1_2 x88_3).f2).length c395_2) ∧ w'.cell? ⟨gb396,3,none⟩ = some (.slice A395_3 ((rd_T27 l1_2 x88_3).f3).length c395_3) ∧ w'.cell? (ad397.add (x88_3).toNat) = some (.string (rdOf ByteArray.empty t392 x88_3))) (ds:=[]) #[false,false,false,false,false,false,false,false,false,false,false,false,false] (by kernel_rfl) rfl rfl ⟨Up.c0 BK396,Up.c1 BK396,Up.c2 BK396,Up.c3 BK396,hx397_0⟩ (fun hHeld => ?_);refine with_tabW impl_valueFits.tab16 impl_valueFits.bits16 (fun HT_ HW_ => ?_)
                 generalize w62.drew = w63 at HO_5 BK389 BK396 HB hx397_0 hHeld ⊢
                 refine Up.pu 0 (some 93) HT_ ?_
                 refine Up.pu 2 (some 95) HT_ ?_
                 refine Up.pu 3 (some 96) HT_ ?_
                 refine Up.pu 4 (some 97) HT_ ?_
                 refine Up.tk 1 (some 94) HT_ HW_ hHeld ?_ (hy:=by rintro w' ⟨s0,s1,s2,s3,s4⟩;go_simp;with_reducible rfl)
                 refine Up.tk 5 (some 98) HT_ HW_ hHeld ?_ (hy:=by rintro w' ⟨s0,s1,s2,s3,s4⟩;go_simp;with_reducible rfl)
                 refine Up.pu 6 (some 99) HT_ ?_
                 refine Up.pu 7 (some 100) HT_ ?_
                 refine Up.pz 8 (some 101) HT_ ?_
                 refine Up.pz 9 (some 102) HT_ ?_
                 refine Up.pz 10 (some 103) HT_ ?_
                 refine Up.pz 11 (some 104) HT_ ?_
                 refine Up.pu 12 (some 105) HT_ ?_
                 refine done_ (done_of HT_.out (by kernel_rfl)) ?_
                 try go_wp2
                 go_ret
                 exact Up.e1 (Up.Bx HB)
               ·rw [if_neg c41] at H
                exact absurd H (by simp)
              ·rw [if_neg c40] at H
               exact absurd H (by simp)
             ·rw [if_neg c39] at H
              exact absurd H (by simp)
            ·rw [if_neg c38] at H
             have c38b0 : decide (x88_3 < (l1_2.length : Int)) = false:=decide_eq_false c38
             clear c38
             obtain rfl:=Option.some.inj H
             go_wp2
             go_ret
             exact Up.e1 (Up.Bx HB)

end Go.Proofs.YtdgmlakgnbmbbaaDoor.OFnValueOk
