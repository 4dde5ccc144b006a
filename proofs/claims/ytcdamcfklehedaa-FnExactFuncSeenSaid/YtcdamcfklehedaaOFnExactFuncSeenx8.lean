-- Laid by a program of this session (wip/myprint.py): the kit's print of the functions, contracts of our own among them.
import Derived.Test.YtcdamcfklehedaaOFnExactFuncSeenx0
import Derived.Test.YtcdamcfklehedaaOFnExactFuncSeenx2
import Derived.Test.YtcdamcfklehedaaOFnExactFuncSeenx3
import Derived.Test.YtcdamcfklehedaaOFnExactFuncSeenx4
import Derived.Test.YtcdamcfklehedaaOFnExactFuncSeenx7
namespace Go.Proofs.Ytcdamcfklehedaa.OFnExactFuncSeen
open Go.RowKit Go.Proofs.YtcdamcfklehedaaW.PrintWords Go.Proofs.YtcdamcfklehedaaW.PrintLast Go.Proofs.YtcdamcfklehedaaW.PrintMore
attribute [local go_sem] max2_int min2_int max_two min_two max_three min_three max_four min_four   -- for this text's walks alone
set_option linter.unusedVariables false
set_option linter.unusedSimpArgs false

/-! ### laws_eqModuleS: function 10 -/
def laws_eqModuleS.l0 : Nat → List (S55) → List (S55) → Int → Option (Bool)
 | 0,_,_,_ => none
 | k + 1,x0,x1,x5 => if x5 < (x0.length : Int) then (if 0 ≤ x5 then (if x5 < (x1.length : Int) then ((laws_eqModule.f k ((rd_T55 x0 x5).f0) ((rd_T55 x0 x5).f1) ((rd_T55 x0 x5).f2) ((rd_T55 x1 x5).f0) ((rd_T55 x1 x5).f1) ((rd_T55 x1 x5).f2)).bind fun t349 => (if t349 = true then (laws_eqModuleS.l0 k x0 x1 (wrap64 (x5 + 1))) else (some false))) else (none)) else (none)) else (some true)
def laws_eqModuleS.f (k : Nat) (l0 : List (S55)) (l1 : List (S55)) : Option (Bool):=if (l0.length : Int) = (l1.length : Int) then (laws_eqModuleS.l0 k l0 l1 0) else (some false)
theorem laws_eqModuleS.mono_l : ∀ k,(∀ y0 y1 y2,LeO (laws_eqModuleS.l0 k y0 y1 y2) (laws_eqModuleS.l0 (k + 1) y0 y1 y2))
 | 0 => fun _ _ _ r h => by simp [laws_eqModuleS.l0] at h
 | k + 1 => by
  have ih0:=laws_eqModuleS.mono_l k
  ·intro y0 y1 y2
   unfold laws_eqModuleS.l0
   repeat' first
   | (with_reducible exact ih0 _ _ _)
   | (with_reducible exact laws_eqModule.mono _ _ _ _ _ _ _)
   | (with_reducible exact LeO.refl _)
   | (with_reducible exact LeO.none _)
   | (with_reducible refine LeO.ite ?_ ?_)
   | (with_reducible refine LeO.bind ?_ (fun _ => ?_))
   | exact ih0 _ _ _
   | exact laws_eqModule.mono _ _ _ _ _ _ _
   | exact LeO.none _
   | refine LeO.ite ?_ ?_
   | refine LeO.bind ?_ (fun _ => ?_)
theorem laws_eqModuleS.mono : ∀ a0 a1 k,LeO (laws_eqModuleS.f k a0 a1) (laws_eqModuleS.f (k + 1) a0 a1):=by
 intro a0 a1 k
 have ih0:=laws_eqModuleS.mono_l k
 unfold laws_eqModuleS.f
 repeat' first
   | (with_reducible exact ih0 _ _ _)
   | (with_reducible exact laws_eqModule.mono _ _ _ _ _ _ _)
   | (with_reducible exact LeO.refl _)
   | (with_reducible exact LeO.none _)
   | (with_reducible refine LeO.ite ?_ ?_)
   | (with_reducible refine LeO.bind ?_ (fun _ => ?_))
   | exact ih0 _ _ _
   | exact laws_eqModule.mono _ _ _ _ _ _ _
   | exact LeO.none _
   | refine LeO.ite ?_ ?_
   | refine LeO.bind ?_ (fun _ => ?_)
def laws_eqModuleS.T6 : Bool × List (List Nat × List Nat):=(true,[([],[]),([],[]),([0,1],[0,1]),([2],[2]),([],[]),([],[]),([4,5],[4,5]),([6],[6]),([3,7],[3,7]),([8],[8])])
def laws_eqModuleS.B6 : List Nat:=[0,0,3,7,0,0,48,112,255,511]
theorem laws_eqModuleS.tab6 : rtab .any (opsOf Try.f10 6) = laws_eqModuleS.T6:=by kernel_rfl
theorem laws_eqModuleS.bits6 : waitsOk laws_eqModuleS.T6.2 laws_eqModuleS.B6 = true:=by kernel_rfl
set_option maxHeartbeats 8000000 in
set_option maxRecDepth 100000 in
theorem laws_eqModuleS.calls (k : Nat) (A0 : Option Addr) (c0 : Nat) (l0 : List (S55)) (A1 : Option Addr) (c1 : Nat) (l1 : List (S55)) (r : Bool) (w : World) (hr0 : Kd.C k55 w A0 l0.length l0) (hc0 : l0.length ≤ c0) (hr1 : Kd.C k55 w A1 l1.length l1) (hc1 : l1.length ≤ c1) (h : laws_eqModuleS.f k l0 l1 = some r) :
  Calls Try.prog 10 #[.slice A0 l0.length c0,.slice A1 l1.length c1] w fun e w' => e = .returned (.bool r) ∧ Below w.heap.size w w':=by
 have hu55:=Try.underlying55
 have HR0:=Aside0.mk hr0
 have HC0:=Aside0.mk hc0
 clear hr0 hc0
 have HR1:=Aside0.mk hr1
 have HC1:=Aside0.mk hc1
 clear hr1 hc1
 have HB:=Aside0.mk (Below.refl w.heap.size w)
 have H : (if (l0.length : Int) = (l1.length : Int) then (laws_eqModuleS.l0 k l0 l1 0) else (some false)) = some r:=h
 clear h
 by_cases c3 : (l0.length : Int) = (l1.length : Int)
 ·rw [if_pos c3] at H
  have c3b0 : ((l0.length : Int) == (l1.length : Int)) = true:=beq_iff_eq.mpr c3
  have c3b1 : ((l0.length : Int) != (l1.length : Int)) = false:=bne_eq_false_iff_eq.mpr c3
  have c3b2 : (l0.length == l1.length) = true:=by first | simpa using c3 | (simp at c3 ⊢;omega)
  clear c3
  have H':=Aside0.mk H
  clear H
  go_enter Try.func10,Try.ntmps10
  go_wp2
  go_loopg [5] k (fun kq v5 w' => ∃ (x5_1 : Int),v5 = .int .i64 x5_1 ∧ Aside0 (laws_eqModuleS.l0 kq l0 l1 x5_1 = some r) ∧ Aside0 (kq ≤ k) ∧ Aside0 (Below w.heap.size w w'))
  case atStart => exact ⟨(0),(by first | rfl | (simp;done) | (simp [*];done)),H',⟨Nat.le_refl _⟩,⟨Up.Bup HB⟩⟩
  case round =>
   clear H'
   try clear c1
   try clear p2
   try clear c3
   try clear c3b0
   try clear c3b1
   try clear c3b2
   obtain ⟨x5_1,rfl,HA,HK1,HB⟩:=hrel
   cases gk with
   | zero => exact absurd HA.out (by simp [laws_eqModuleS.l0])
   | succ k1 =>
    have H:=HA.out
    clear HA
    simp only [laws_eqModuleS.l0] at H
    by_cases c4 : x5_1 < (l0.length : Int)
    ·rw [if_pos c4] at H
     have c4b0 : decide (x5_1 < (l0.length : Int)) = true:=decide_eq_true c4
     clear c4
     by_cases c5 : 0 ≤ x5_1
     ·rw [if_pos c5] at H
      have c5b0 : decide (0 ≤ x5_1) = true:=decide_eq_true c5
      clear c5
      by_cases c6 : x5_1 < (l1.length : Int)
      ·rw [if_pos c6] at H
       have c6b0 : decide (x5_1 < (l1.length : Int)) = true:=decide_eq_true c6
       clear c6
       replace H:=Option.bind_eq_some_iff.mp H
       obtain ⟨t349,A70,H⟩:=H
       replace H : (if t349 = true then (laws_eqModuleS.l0 k1 l0 l1 (wrap64 (x5_1 + 1))) else (some false)) = some r:=H
       have A7:=Aside0.mk A70
       clear A70
       by_cases c8 : t349 = true
       ·subst c8
        have H1 : (laws_eqModuleS.l0 k1 l0 l1 (wrap64 (x5_1 + 1))) = some r:=by rw [if_pos rfl] at H;exact H
        clear H
        have H:=H1
        clear H1
        have H':=Aside0.mk H
        clear H
        try go_wp2
        have n0_:=Aside0.mk (below_drew1 HB.out)
        clear HB
        have HB:=n0_
        clear n0_
        have p347 : 0 ≤ (x5_1 : Int):=of_decide_eq_true (by first | (with_reducible assumption) | assumption)
        have q347 : x5_1 < (l0.length : Int):=of_decide_eq_true (by first | (with_reducible assumption) | assumption)
        obtain ⟨ad347,A347_0,c347_0,A347_1,c347_1,A347_2,c347_2,e347,hx347_0,hx347_1,hx347_2,hl347_0,hi347_0,hl347_1,hi347_1,hl347_2,hi347_2⟩:=at_T55 HR0.out x5_1 p347 q347
        have hw347_2:=hx347_2
        have hw347_1:=hx347_1
        have hw347_0:=hx347_0
        cases e347
        replace hx347_0:=(HB.out.cell (World.block_lt_of_cell? w _ hx347_0)).trans hx347_0
        replace hx347_1:=(HB.out.cell (World.block_lt_of_cell? w _ hx347_1)).trans hx347_1
        replace hx347_2:=(HB.out.cell (World.block_lt_of_cell? w _ hx347_2)).trans hx347_2
        have HR347_0:=Aside0.mk hi347_0
        have HC347_0:=Aside0.mk hl347_0
        clear hi347_0 hl347_0
        have HR347_1:=Aside0.mk hi347_1
        have HC347_1:=Aside0.mk hl347_1
        clear hi347_1 hl347_1
        have HR347_2:=Aside0.mk hi347_2
        have HC347_2:=Aside0.mk hl347_2
        clear hi347_2 hl347_2
        replace p347:=eq_true p347
        replace q347:=eq_true q347
        have p348 : 0 ≤ (x5_1 : Int):=of_decide_eq_true (by first | (with_reducible assumption) | assumption)
        have q348 : x5_1 < (l1.length : Int):=of_decide_eq_true (by first | (with_reducible assumption) | assumption)
        obtain ⟨ad348,A348_0,c348_0,A348_1,c348_1,A348_2,c348_2,e348,hx348_0,hx348_1,hx348_2,hl348_0,hi348_0,hl348_1,hi348_1,hl348_2,hi348_2⟩:=at_T55 HR1.out x5_1 p348 q348
        have hw348_2:=hx348_2
        have hw348_1:=hx348_1
        have hw348_0:=hx348_0
        cases e348
        replace hx348_0:=(HB.out.cell (World.block_lt_of_cell? w _ hx348_0)).trans hx348_0
        replace hx348_1:=(HB.out.cell (World.block_lt_of_cell? w _ hx348_1)).trans hx348_1
        replace hx348_2:=(HB.out.cell (World.block_lt_of_cell? w _ hx348_2)).trans hx348_2
        have HR348_0:=Aside0.mk hi348_0
        have HC348_0:=Aside0.mk hl348_0
        clear hi348_0 hl348_0
        have HR348_1:=Aside0.mk hi348_1
        have HC348_1:=Aside0.mk hl348_1
        clear hi348_1 hl348_1
        have HR348_2:=Aside0.mk hi348_2
        have HC348_2:=Aside0.mk hl348_2
        clear hi348_2 hl348_2
        replace p348:=eq_true p348
        replace q348:=eq_true q348
        refine start_ (n:=10) (S:=fun w' => w'.cell? (ad347.add ((x5_1).toNat * 3)) = some (.slice A347_0 ((rd_T55 l0 x5_1).f0).length c347_0) ∧ w'.cell? ⟨(ad347.add ((x5_1).toNat * 3)).block,(ad347.add ((x5_1).toNat * 3)).off + 1,none⟩ = some (.slice A347_1 ((rd_T55 l0 x5_1).f1).length c347_1) ∧ w'.cell? ⟨(ad347.add ((x5_1).toNat * 3)).block,(ad347.add ((x5_1).toNat * 3)).off + 2,none⟩ = some (.slice A347_2 ((rd_T55 l0 x5_1).f2).length c347_2) ∧ w'.cell? (ad348.add ((x5_1).toNat * 3)) = some (.slice A348_0 ((rd_T55 l1 x5_1).f0).length c348_0) ∧ w'.cell? ⟨(ad348.add ((x5_1).toNat * 3)).block,(ad348.add ((x5_1).toNat * 3)).off + 1,none⟩ = some (.slice A348_1 ((rd_T55 l1 x5_1).f1).length c348_1) ∧ w'.cell? ⟨(ad348.add ((x5_1).toNat * 3)).block,(ad348.add ((x5_1).toNat * 3)).off + 2,none⟩ = some (.slice A348_2 ((rd_T55 l1 x5_1).f2).length c348_2)) (ds:=[]) #[false,false,false,false,false,false,false,false,false,false] (by kernel_rfl) rfl rfl ⟨((HB.out.cell (World.block_lt_of_cell? w _ hw347_0)).trans hw347_0),((HB.out.cell (World.block_lt_of_cell? w _ hw347_1)).trans hw347_1),((HB.out.cell (World.block_lt_of_cell? w _ hw347_2)).trans hw347_2),((HB.out.cell (World.block_lt_of_cell? w _ hw348_0)).trans hw348_0),((HB.out.cell (World.block_lt_of_cell? w _ hw348_1)).trans hw348_1),((HB.out.cell (World.block_lt_of_cell? w _ hw348_2)).trans hw348_2)⟩ (fun hHeld => ?_);refine with_tabW laws_eqModuleS.tab6 laws_eqModuleS.bits6 (fun HT_ HW_ => ?_)
        generalize wr.drew = w9 at HB HR347_0 HR347_1 HR347_2 HR348_0 HR348_1 HR348_2 hx347_0 hx347_1 hx347_2 hx348_0 hx348_1 hx348_2 hHeld ⊢
        refine pure_ (i:=0) (N:=some 17) (v:=?_) (a':=?_) #[true,false,false,false,false,false,false,false,false,false] rfl rfl (any_of HT_.out (by kernel_rfl)) (fun _ _ _ h => h) (Or.inl ⟨by rfl,?_⟩) ?_ ?_
        rotate_left
        ·intro w'
         go_simp
         with_reducible rfl
        rotate_left
        ·simp only [Act.put,List.setIfInBounds_toArray,List.set_cons_zero,List.set_cons_succ,i64_w,i32_w]
         rfl
        refine pure_ (i:=1) (N:=some 18) (v:=?_) (a':=?_) #[true,true,false,false,false,false,false,false,false,false] rfl rfl (any_of HT_.out (by kernel_rfl)) (fun _ _ _ h => h) (Or.inl ⟨by rfl,?_⟩) ?_ ?_
        rotate_left
        ·intro w'
         go_simp
         with_reducible rfl
        rotate_left
        ·simp only [Act.put,List.setIfInBounds_toArray,List.set_cons_zero,List.set_cons_succ,i64_w,i32_w]
         rfl
        refine pure_ (i:=2) (N:=some 19) (v:=?_) (a':=?_) #[true,true,true,false,false,false,false,false,false,false] rfl rfl (any_of HT_.out (by kernel_rfl)) (fun _ _ _ h => h) (Or.inl ⟨by rfl,?_⟩) ?_ ?_
        rotate_left
        ·intro w'
         go_simp
         with_reducible rfl
        rotate_left
        ·simp only [Act.put,List.setIfInBounds_toArray,List.set_cons_zero,List.set_cons_succ,i64_w,i32_w]
         rfl
        refine pure_ (i:=4) (N:=some 21) (v:=?_) (a':=?_) #[true,true,true,false,true,false,false,false,false,false] rfl rfl (any_of HT_.out (by kernel_rfl)) (fun _ _ _ h => h) (Or.inl ⟨by rfl,?_⟩) ?_ ?_
        rotate_left
        ·intro w'
         go_simp
         with_reducible rfl
        rotate_left
        ·simp only [Act.put,List.setIfInBounds_toArray,List.set_cons_zero,List.set_cons_succ,i64_w,i32_w]
         rfl
        refine pure_ (i:=5) (N:=some 22) (v:=?_) (a':=?_) #[true,true,true,false,true,true,false,false,false,false] rfl rfl (any_of HT_.out (by kernel_rfl)) (fun _ _ _ h => h) (Or.inl ⟨by rfl,?_⟩) ?_ ?_
        rotate_left
        ·intro w'
         go_simp
         with_reducible rfl
        rotate_left
        ·simp only [Act.put,List.setIfInBounds_toArray,List.set_cons_zero,List.set_cons_succ,i64_w,i32_w]
         rfl
        refine pure_ (i:=6) (N:=some 23) (v:=?_) (a':=?_) #[true,true,true,false,true,true,true,false,false,false] rfl rfl (any_of HT_.out (by kernel_rfl)) (fun _ _ _ h => h) (Or.inl ⟨by rfl,?_⟩) ?_ ?_
        rotate_left
        ·intro w'
         go_simp
         with_reducible rfl
        rotate_left
        ·simp only [Act.put,List.setIfInBounds_toArray,List.set_cons_zero,List.set_cons_succ,i64_w,i32_w]
         rfl
        refine take_ (i:=3) (N:=some 20) (v:=?_) (a':=?_) #[true,true,true,true,true,true,true,false,false,false] rfl rfl (take_ofW HT_.out HW_.out (by kernel_rfl)) (fun _ _ _ h => h) (Or.inl ⟨by rfl,?_⟩) hHeld ?_ ?_
        rotate_left
        ·rintro w' ⟨s0,s1,s2,s3,s4,s5⟩
         go_simp
         with_reducible rfl
        rotate_left
        ·simp only [Act.put,List.setIfInBounds_toArray,List.set_cons_zero,List.set_cons_succ,i64_w,i32_w]
         rfl
        refine take_ (i:=7) (N:=some 24) (v:=?_) (a':=?_) #[true,true,true,true,true,true,true,true,false,false] rfl rfl (take_ofW HT_.out HW_.out (by kernel_rfl)) (fun _ _ _ h => h) (Or.inl ⟨by rfl,?_⟩) hHeld ?_ ?_
        rotate_left
        ·rintro w' ⟨s0,s1,s2,s3,s4,s5⟩
         go_simp
         with_reducible rfl
        rotate_left
        ·simp only [Act.put,List.setIfInBounds_toArray,List.set_cons_zero,List.set_cons_succ,i64_w,i32_w]
         rfl
        refine one_ (i:=8) (N:=some 25) #[true,true,true,true,true,true,true,true,true,false] rfl rfl (one_of HT_.out (by kernel_rfl)) (by decide) (fun K hK => ?_)
        refine goes_ Try.func28 (by kernel_rfl) rfl #[.agg #[.slice A347_0 ((rd_T55 l0 x5_1).f0).length c347_0,.slice A347_1 ((rd_T55 l0 x5_1).f1).length c347_1,.slice A347_2 ((rd_T55 l0 x5_1).f2).length c347_2],.agg #[.slice A348_0 ((rd_T55 l1 x5_1).f0).length c348_0,.slice A348_1 ((rd_T55 l1 x5_1).f1).length c348_1,.slice A348_2 ((rd_T55 l1 x5_1).f2).length c348_2]] (by rfl) rfl rfl (by (try simp only [List.map_toArray,List.map_cons,List.map_nil]);first | done | rfl | (simp only [List.length_drop,List.length_take];rfl)) ?_
        with_reducible refine (laws_eqModule.calls k1 _ _ ((rd_T55 l0 x5_1).f0) _ _ ((rd_T55 l0 x5_1).f1) _ _ ((rd_T55 l0 x5_1).f2) _ _ ((rd_T55 l1 x5_1).f0) _ _ ((rd_T55 l1 x5_1).f1) _ _ ((rd_T55 l1 x5_1).f2) true _ ?side1 ?side2 ?side3 ?side4 ?side5 ?side6 ?side7 ?side8 ?side9 ?side10 ?side11 ?side12 A7.out).mono ?_
        (case side1 => repeat (first | exact (Kd.C_below HR347_0.out HB.out) | (with_reducible refine Kd.C_alloc ?_ _) | (with_reducible refine Kd.C_drewN ?_ _) | (with_reducible refine Kd.C_drew ?_)))
        (case side2 => exact HC347_0.out)
        (case side3 => repeat (first | exact (Kd.C_below HR347_1.out HB.out) | (with_reducible refine Kd.C_alloc ?_ _) | (with_reducible refine Kd.C_drewN ?_ _) | (with_reducible refine Kd.C_drew ?_)))
        (case side4 => exact HC347_1.out)
        (case side5 => repeat (first | exact (Kd.C_below HR347_2.out HB.out) | (with_reducible refine Kd.C_alloc ?_ _) | (with_reducible refine Kd.C_drewN ?_ _) | (with_reducible refine Kd.C_drew ?_)))
        (case side6 => exact HC347_2.out)
        (case side7 => repeat (first | exact (Kd.C_below HR348_0.out HB.out) | (with_reducible refine Kd.C_alloc ?_ _) | (with_reducible refine Kd.C_drewN ?_ _) | (with_reducible refine Kd.C_drew ?_)))
        (case side8 => exact HC348_0.out)
        (case side9 => repeat (first | exact (Kd.C_below HR348_1.out HB.out) | (with_reducible refine Kd.C_alloc ?_ _) | (with_reducible refine Kd.C_drewN ?_ _) | (with_reducible refine Kd.C_drew ?_)))
        (case side10 => exact HC348_1.out)
        (case side11 => repeat (first | exact (Kd.C_below HR348_2.out HB.out) | (with_reducible refine Kd.C_alloc ?_ _) | (with_reducible refine Kd.C_drewN ?_ _) | (with_reducible refine Kd.C_drew ?_)))
        (case side12 => exact HC348_2.out)
        rintro e w10 ⟨rfl,hb⟩
        refine ⟨_,rfl,?_⟩
        have n0_:=Up.BB HB hb
        clear HB
        have HB:=n0_
        clear n0_
        (try clear hb)
        (try clear hb2)
        (try clear hk)
        (try clear hi)
        refine hK.out _ _ ⟨((HB.out.cell (World.block_lt_of_cell? w _ hw347_0)).trans hw347_0),((HB.out.cell (World.block_lt_of_cell? w _ hw347_1)).trans hw347_1),((HB.out.cell (World.block_lt_of_cell? w _ hw347_2)).trans hw347_2),((HB.out.cell (World.block_lt_of_cell? w _ hw348_0)).trans hw348_0),((HB.out.cell (World.block_lt_of_cell? w _ hw348_1)).trans hw348_1),((HB.out.cell (World.block_lt_of_cell? w _ hw348_2)).trans hw348_2)⟩ (fun hHeld => ?_)
        clear hK K
        refine norm_ (a':=?_) ?_ ?_
        rotate_left
        ·show Act.put _ (some 25) _ = _
         simp only [Act.put,List.setIfInBounds_toArray,List.set_cons_zero,List.set_cons_succ,i64_w,i32_w]
         rfl
        refine pure_ (i:=9) (N:=some 26) (v:=?_) (a':=?_) #[true,true,true,true,true,true,true,true,true,true] rfl rfl (any_of HT_.out (by kernel_rfl)) (fun _ _ _ h => h) (Or.inl ⟨by rfl,?_⟩) ?_ ?_
        rotate_left
        ·intro w'
         go_simp
         with_reducible rfl
        rotate_left
        ·simp only [Act.put,List.setIfInBounds_toArray,List.set_cons_zero,List.set_cons_succ,i64_w,i32_w]
         rfl
        refine done_ (done_of HT_.out (by kernel_rfl)) ?_
        try go_wp2
        go_roundg k1
        case measure => have:=HK1.out;omega
        case rel => exact ⟨(wrap64 (x5_1 + 1)),(by first | rfl | (simp;done) | (simp [*];done)),H',⟨by have:=HK1.out;omega⟩,⟨Up.Bup HB⟩⟩
       ·replace c8:=Bool.eq_false_iff.mpr c8
        subst c8
        have H1 : (some false) = some r:=by rw [if_neg (show ¬ (false = true) by decide)] at H;exact H
        clear H
        have H:=H1
        clear H1
        obtain rfl:=Option.some.inj H
        try go_wp2
        have n0_:=Aside0.mk (below_drew1 HB.out)
        clear HB
        have HB:=n0_
        clear n0_
        have p347 : 0 ≤ (x5_1 : Int):=of_decide_eq_true (by first | (with_reducible assumption) | assumption)
        have q347 : x5_1 < (l0.length : Int):=of_decide_eq_true (by first | (with_reducible assumption) | assumption)
        obtain ⟨ad347,A347_0,c347_0,A347_1,c347_1,A347_2,c347_2,e347,hx347_0,hx347_1,hx347_2,hl347_0,hi347_0,hl347_1,hi347_1,hl347_2,hi347_2⟩:=at_T55 HR0.out x5_1 p347 q347
        have hw347_2:=hx347_2
        have hw347_1:=hx347_1
        have hw347_0:=hx347_0
        cases e347
        replace hx347_0:=(HB.out.cell (World.block_lt_of_cell? w _ hx347_0)).trans hx347_0
        replace hx347_1:=(HB.out.cell (World.block_lt_of_cell? w _ hx347_1)).trans hx347_1
        replace hx347_2:=(HB.out.cell (World.block_lt_of_cell? w _ hx347_2)).trans hx347_2
        have HR347_0:=Aside0.mk hi347_0
        have HC347_0:=Aside0.mk hl347_0
        clear hi347_0 hl347_0
        have HR347_1:=Aside0.mk hi347_1
        have HC347_1:=Aside0.mk hl347_1
        clear hi347_1 hl347_1
        have HR347_2:=Aside0.mk hi347_2
        have HC347_2:=Aside0.mk hl347_2
        clear hi347_2 hl347_2
        replace p347:=eq_true p347
        replace q347:=eq_true q347
        have p348 : 0 ≤ (x5_1 : Int):=of_decide_eq_true (by first | (with_reducible assumption) | assumption)
        have q348 : x5_1 < (l1.length : Int):=of_decide_eq_true (by first | (with_reducible assumption) | assumption)
        obtain ⟨ad348,A348_0,c348_0,A348_1,c348_1,A348_2,c348_2,e348,hx348_0,hx348_1,hx348_2,hl348_0,hi348_0,hl348_1,hi348_1,hl348_2,hi348_2⟩:=at_T55 HR1.out x5_1 p348 q348
        have hw348_2:=hx348_2
        have hw348_1:=hx348_1
        have hw348_0:=hx348_0
        cases e348
        replace hx348_0:=(HB.out.cell (World.block_lt_of_cell? w _ hx348_0)).trans hx348_0
        replace hx348_1:=(HB.out.cell (World.block_lt_of_cell? w _ hx348_1)).trans hx348_1
        replace hx348_2:=(HB.out.cell (World.block_lt_of_cell? w _ hx348_2)).trans hx348_2
        have HR348_0:=Aside0.mk hi348_0
        have HC348_0:=Aside0.mk hl348_0
        clear hi348_0 hl348_0
        have HR348_1:=Aside0.mk hi348_1
        have HC348_1:=Aside0.mk hl348_1
        clear hi348_1 hl348_1
        have HR348_2:=Aside0.mk hi348_2
        have HC348_2:=Aside0.mk hl348_2
        clear hi348_2 hl348_2
        replace p348:=eq_true p348
        replace q348:=eq_true q348
        refine start_ (n:=10) (S:=fun w' => w'.cell? (ad347.add ((x5_1).toNat * 3)) = some (.slice A347_0 ((rd_T55 l0 x5_1).f0).length c347_0) ∧ w'.cell? ⟨(ad347.add ((x5_1).toNat * 3)).block,(ad347.add ((x5_1).toNat * 3)).off + 1,none⟩ = some (.slice A347_1 ((rd_T55 l0 x5_1).f1).length c347_1) ∧ w'.cell? ⟨(ad347.add ((x5_1).toNat * 3)).block,(ad347.add ((x5_1).toNat * 3)).off + 2,none⟩ = some (.slice A347_2 ((rd_T55 l0 x5_1).f2).length c347_2) ∧ w'.cell? (ad348.add ((x5_1).toNat * 3)) = some (.slice A348_0 ((rd_T55 l1 x5_1).f0).length c348_0) ∧ w'.cell? ⟨(ad348.add ((x5_1).toNat * 3)).block,(ad348.add ((x5_1).toNat * 3)).off + 1,none⟩ = some (.slice A348_1 ((rd_T55 l1 x5_1).f1).length c348_1) ∧ w'.cell? ⟨(ad348.add ((x5_1).toNat * 3)).block,(ad348.add ((x5_1).toNat * 3)).off + 2,none⟩ = some (.slice A348_2 ((rd_T55 l1 x5_1).f2).length c348_2)) (ds:=[]) #[false,false,false,false,false,false,false,false,false,false] (by kernel_rfl) rfl rfl ⟨((HB.out.cell (World.block_lt_of_cell? w _ hw347_0)).trans hw347_0),((HB.out.cell (World.block_lt_of_cell? w _ hw347_1)).trans hw347_1),((HB.out.cell (World.block_lt_of_cell? w _ hw347_2)).trans hw347_2),((HB.out.cell (World.block_lt_of_cell? w _ hw348_0)).trans hw348_0),((HB.out.cell (World.block_lt_of_cell? w _ hw348_1)).trans hw348_1),((HB.out.cell (World.block_lt_of_cell? w _ hw348_2)).trans hw348_2)⟩ (fun hHeld => ?_);refine with_tabW laws_eqModuleS.tab6 laws_eqModuleS.bits6 (fun HT_ HW_ => ?_)
        generalize wr.drew = w11 at HB HR347_0 HR347_1 HR347_2 HR348_0 HR348_1 HR348_2 hx347_0 hx347_1 hx347_2 hx348_0 hx348_1 hx348_2 hHeld ⊢
        refine pure_ (i:=0) (N:=some 17) (v:=?_) (a':=?_) #[true,false,false,false,false,false,false,false,false,false] rfl rfl (any_of HT_.out (by kernel_rfl)) (fun _ _ _ h => h) (Or.inl ⟨by rfl,?_⟩) ?_ ?_
        rotate_left
        ·intro w'
         go_simp
         with_reducible rfl
        rotate_left
        ·simp only [Act.put,List.setIfInBounds_toArray,List.set_cons_zero,List.set_cons_succ,i64_w,i32_w]
         rfl
        refine pure_ (i:=1) (N:=some 18) (v:=?_) (a':=?_) #[true,true,false,false,false,false,false,false,false,false] rfl rfl (any_of HT_.out (by kernel_rfl)) (fun _ _ _ h => h) (Or.inl ⟨by rfl,?_⟩) ?_ ?_
        rotate_left
        ·intro w'
         go_simp
         with_reducible rfl
        rotate_left
        ·simp only [Act.put,List.setIfInBounds_toArray,List.set_cons_zero,List.set_cons_succ,i64_w,i32_w]
         rfl
        refine pure_ (i:=2) (N:=some 19) (v:=?_) (a':=?_) #[true,true,true,false,false,false,false,false,false,false] rfl rfl (any_of HT_.out (by kernel_rfl)) (fun _ _ _ h => h) (Or.inl ⟨by rfl,?_⟩) ?_ ?_
        rotate_left
        ·intro w'
         go_simp
         with_reducible rfl
        rotate_left
        ·simp only [Act.put,List.setIfInBounds_toArray,List.set_cons_zero,List.set_cons_succ,i64_w,i32_w]
         rfl
        refine pure_ (i:=4) (N:=some 21) (v:=?_) (a':=?_) #[true,true,true,false,true,false,false,false,false,false] rfl rfl (any_of HT_.out (by kernel_rfl)) (fun _ _ _ h => h) (Or.inl ⟨by rfl,?_⟩) ?_ ?_
        rotate_left
        ·intro w'
         go_simp
         with_reducible rfl
        rotate_left
        ·simp only [Act.put,List.setIfInBounds_toArray,List.set_cons_zero,List.set_cons_succ,i64_w,i32_w]
         rfl
        refine pure_ (i:=5) (N:=some 22) (v:=?_) (a':=?_) #[true,true,true,false,true,true,false,false,false,false] rfl rfl (any_of HT_.out (by kernel_rfl)) (fun _ _ _ h => h) (Or.inl ⟨by rfl,?_⟩) ?_ ?_
        rotate_left
        ·intro w'
         go_simp
         with_reducible rfl
        rotate_left
        ·simp only [Act.put,List.setIfInBounds_toArray,List.set_cons_zero,List.set_cons_succ,i64_w,i32_w]
         rfl
        refine pure_ (i:=6) (N:=some 23) (v:=?_) (a':=?_) #[true,true,true,false,true,true,true,false,false,false] rfl rfl (any_of HT_.out (by kernel_rfl)) (fun _ _ _ h => h) (Or.inl ⟨by rfl,?_⟩) ?_ ?_
        rotate_left
        ·intro w'
         go_simp
         with_reducible rfl
        rotate_left
        ·simp only [Act.put,List.setIfInBounds_toArray,List.set_cons_zero,List.set_cons_succ,i64_w,i32_w]
         rfl
        refine take_ (i:=3) (N:=some 20) (v:=?_) (a':=?_) #[true,true,true,true,true,true,true,false,false,false] rfl rfl (take_ofW HT_.out HW_.out (by kernel_rfl)) (fun _ _ _ h => h) (Or.inl ⟨by rfl,?_⟩) hHeld ?_ ?_
        rotate_left
        ·rintro w' ⟨s0,s1,s2,s3,s4,s5⟩
         go_simp
         with_reducible rfl
        rotate_left
        ·simp only [Act.put,List.setIfInBounds_toArray,List.set_cons_zero,List.set_cons_succ,i64_w,i32_w]
         rfl
        refine take_ (i:=7) (N:=some 24) (v:=?_) (a':=?_) #[true,true,true,true,true,true,true,true,false,false] rfl rfl (take_ofW HT_.out HW_.out (by kernel_rfl)) (fun _ _ _ h => h) (Or.inl ⟨by rfl,?_⟩) hHeld ?_ ?_
        rotate_left
        ·rintro w' ⟨s0,s1,s2,s3,s4,s5⟩
         go_simp
         with_reducible rfl
        rotate_left
        ·simp only [Act.put,List.setIfInBounds_toArray,List.set_cons_zero,List.set_cons_succ,i64_w,i32_w]
         rfl
        refine one_ (i:=8) (N:=some 25) #[true,true,true,true,true,true,true,true,true,false] rfl rfl (one_of HT_.out (by kernel_rfl)) (by decide) (fun K hK => ?_)
        refine goes_ Try.func28 (by kernel_rfl) rfl #[.agg #[.slice A347_0 ((rd_T55 l0 x5_1).f0).length c347_0,.slice A347_1 ((rd_T55 l0 x5_1).f1).length c347_1,.slice A347_2 ((rd_T55 l0 x5_1).f2).length c347_2],.agg #[.slice A348_0 ((rd_T55 l1 x5_1).f0).length c348_0,.slice A348_1 ((rd_T55 l1 x5_1).f1).length c348_1,.slice A348_2 ((rd_T55 l1 x5_1).f2).length c348_2]] (by rfl) rfl rfl (by (try simp only [List.map_toArray,List.map_cons,List.map_nil]);first | done | rfl | (simp only [List.length_drop,List.length_take];rfl)) ?_
        with_reducible refine (laws_eqModule.calls k1 _ _ ((rd_T55 l0 x5_1).f0) _ _ ((rd_T55 l0 x5_1).f1) _ _ ((rd_T55 l0 x5_1).f2) _ _ ((rd_T55 l1 x5_1).f0) _ _ ((rd_T55 l1 x5_1).f1) _ _ ((rd_T55 l1 x5_1).f2) false _ ?side1 ?side2 ?side3 ?side4 ?side5 ?side6 ?side7 ?side8 ?side9 ?side10 ?side11 ?side12 A7.out).mono ?_
        (case side1 => repeat (first | exact (Kd.C_below HR347_0.out HB.out) | (with_reducible refine Kd.C_alloc ?_ _) | (with_reducible refine Kd.C_drewN ?_ _) | (with_reducible refine Kd.C_drew ?_)))
        (case side2 => exact HC347_0.out)
        (case side3 => repeat (first | exact (Kd.C_below HR347_1.out HB.out) | (with_reducible refine Kd.C_alloc ?_ _) | (with_reducible refine Kd.C_drewN ?_ _) | (with_reducible refine Kd.C_drew ?_)))
        (case side4 => exact HC347_1.out)
        (case side5 => repeat (first | exact (Kd.C_below HR347_2.out HB.out) | (with_reducible refine Kd.C_alloc ?_ _) | (with_reducible refine Kd.C_drewN ?_ _) | (with_reducible refine Kd.C_drew ?_)))
        (case side6 => exact HC347_2.out)
        (case side7 => repeat (first | exact (Kd.C_below HR348_0.out HB.out) | (with_reducible refine Kd.C_alloc ?_ _) | (with_reducible refine Kd.C_drewN ?_ _) | (with_reducible refine Kd.C_drew ?_)))
        (case side8 => exact HC348_0.out)
        (case side9 => repeat (first | exact (Kd.C_below HR348_1.out HB.out) | (with_reducible refine Kd.C_alloc ?_ _) | (with_reducible refine Kd.C_drewN ?_ _) | (with_reducible refine Kd.C_drew ?_)))
        (case side10 => exact HC348_1.out)
        (case side11 => repeat (first | exact (Kd.C_below HR348_2.out HB.out) | (with_reducible refine Kd.C_alloc ?_ _) | (with_reducible refine Kd.C_drewN ?_ _) | (with_reducible refine Kd.C_drew ?_)))
        (case side12 => exact HC348_2.out)
        rintro e w12 ⟨rfl,hb⟩
        refine ⟨_,rfl,?_⟩
        have n0_:=Up.BB HB hb
        clear HB
        have HB:=n0_
        clear n0_
        (try clear hb)
        (try clear hb2)
        (try clear hk)
        (try clear hi)
        refine hK.out _ _ ⟨((HB.out.cell (World.block_lt_of_cell? w _ hw347_0)).trans hw347_0),((HB.out.cell (World.block_lt_of_cell? w _ hw347_1)).trans hw347_1),((HB.out.cell (World.block_lt_of_cell? w _ hw347_2)).trans hw347_2),((HB.out.cell (World.block_lt_of_cell? w _ hw348_0)).trans hw348_0),((HB.out.cell (World.block_lt_of_cell? w _ hw348_1)).trans hw348_1),((HB.out.cell (World.block_lt_of_cell? w _ hw348_2)).trans hw348_2)⟩ (fun hHeld => ?_)
        clear hK K
        refine norm_ (a':=?_) ?_ ?_
        rotate_left
        ·show Act.put _ (some 25) _ = _
         simp only [Act.put,List.setIfInBounds_toArray,List.set_cons_zero,List.set_cons_succ,i64_w,i32_w]
         rfl
        refine pure_ (i:=9) (N:=some 26) (v:=?_) (a':=?_) #[true,true,true,true,true,true,true,true,true,true] rfl rfl (any_of HT_.out (by kernel_rfl)) (fun _ _ _ h => h) (Or.inl ⟨by rfl,?_⟩) ?_ ?_
        rotate_left
        ·intro w'
         go_simp
         with_reducible rfl
        rotate_left
        ·simp only [Act.put,List.setIfInBounds_toArray,List.set_cons_zero,List.set_cons_succ,i64_w,i32_w]
         rfl
        refine done_ (done_of HT_.out (by kernel_rfl)) ?_
        try go_wp2
        go_ret
        exact ⟨by first | rfl | (simp [errW_none,errW_some] <;> rfl) | (simp [*,errW_none,errW_some] <;> rfl),Up.Bup HB⟩
      ·rw [if_neg c6] at H
       exact absurd H (by simp)
     ·rw [if_neg c5] at H
      exact absurd H (by simp)
    ·rw [if_neg c4] at H
     have c4b0 : decide (x5_1 < (l0.length : Int)) = false:=decide_eq_false c4
     clear c4
     obtain rfl:=Option.some.inj H
     go_wp2
     go_ret
     exact ⟨by first | rfl | (simp [errW_none,errW_some] <;> rfl) | (simp [*,errW_none,errW_some] <;> rfl),Up.Bup HB⟩
 ·rw [if_neg c3] at H
  have c3b0 : ((l0.length : Int) == (l1.length : Int)) = false:=beq_eq_false_iff_ne.mpr c3
  have c3b1 : ((l0.length : Int) != (l1.length : Int)) = true:=bne_iff_ne.mpr c3
  have c3b2 : (l0.length == l1.length) = false:=by first | simpa using c3 | (simp at c3 ⊢;omega)
  obtain rfl:=Option.some.inj H
  go_enter Try.func10,Try.ntmps10
  go_wp2
  go_ret
  exact ⟨by first | rfl | (simp [errW_none,errW_some] <;> rfl) | (simp [*,errW_none,errW_some] <;> rfl),Up.Bup HB⟩

/-! ### laws_FnExactFuncSeen: function 3 -/
def laws_FnExactFuncSeen.f (k : Nat) (l0 : List (S49)) (a1 : Int) (a2 : Int) (a3 : Int) : Option (Bool):=(laws_szModuleS.f k l0 1048576).bind fun t350 => (if t350 < 0 then (some true) else ((laws_toModuleS.f k l0).bind fun t351 => ((spec_FuncSeen.f k t351 a1 a2 a3).bind fun t354 => ((laws_toModuleS.f k l0).bind fun t355 => ((impl_FuncSeen.f k t355 a1 a2 a3).bind fun t358 => (if (t358 != t354) = true then (some false) else ((laws_toModuleS.f k l0).bind fun t359 => ((laws_eqModuleS.f k t355 t359).bind fun t362 => (if t362 = true then (some true) else (some false))))))))))
theorem laws_FnExactFuncSeen.mono : ∀ a0 a1 a2 a3 k,LeO (laws_FnExactFuncSeen.f k a0 a1 a2 a3) (laws_FnExactFuncSeen.f (k + 1) a0 a1 a2 a3):=by
 intro a0 a1 a2 a3 k
 unfold laws_FnExactFuncSeen.f
 repeat' first
   | (with_reducible exact impl_FuncSeen.mono _ _ _ _ _)
   | (with_reducible exact laws_eqModuleS.mono _ _ _)
   | (with_reducible exact laws_szModuleS.mono _ _ _)
   | (with_reducible exact laws_toModuleS.mono _ _)
   | (with_reducible exact spec_FuncSeen.mono _ _ _ _ _)
   | (with_reducible exact LeO.refl _)
   | (with_reducible exact LeO.none _)
   | (with_reducible refine LeO.ite ?_ ?_)
   | (with_reducible refine LeO.bind ?_ (fun _ => ?_))
   | exact impl_FuncSeen.mono _ _ _ _ _
   | exact laws_eqModuleS.mono _ _ _
   | exact laws_szModuleS.mono _ _ _
   | exact laws_toModuleS.mono _ _
   | exact spec_FuncSeen.mono _ _ _ _ _
   | exact LeO.none _
   | refine LeO.ite ?_ ?_
   | refine LeO.bind ?_ (fun _ => ?_)
set_option maxHeartbeats 8000000 in
set_option maxRecDepth 100000 in
theorem laws_FnExactFuncSeen.calls (k : Nat) (A0 : Option Addr) (c0 : Nat) (l0 : List (S49)) (a1 : Int) (a2 : Int) (a3 : Int) (r : Bool) (w : World) (hr0 : Kd.C k49 w A0 l0.length l0) (hc0 : l0.length ≤ c0) (h : laws_FnExactFuncSeen.f k l0 a1 a2 a3 = some r) :
  Calls Try.prog 3 #[.slice A0 l0.length c0,.int .i64 a1,.int .i64 a2,.int .i64 a3] w fun e w' => e = .returned (.bool r) ∧ Below w.heap.size w w':=by
 have HR0:=Aside0.mk hr0
 have HC0:=Aside0.mk hc0
 clear hr0 hc0
 have HB:=Aside0.mk (Below.refl w.heap.size w)
 have H : ((laws_szModuleS.f k l0 1048576).bind fun t350 => (if t350 < 0 then (some true) else ((laws_toModuleS.f k l0).bind fun t351 => ((spec_FuncSeen.f k t351 a1 a2 a3).bind fun t354 => ((laws_toModuleS.f k l0).bind fun t355 => ((impl_FuncSeen.f k t355 a1 a2 a3).bind fun t358 => (if (t358 != t354) = true then (some false) else ((laws_toModuleS.f k l0).bind fun t359 => ((laws_eqModuleS.f k t355 t359).bind fun t362 => (if t362 = true then (some true) else (some false))))))))))) = some r:=h
 clear h
 replace H:=Option.bind_eq_some_iff.mp H
 obtain ⟨t350,A50,H⟩:=H
 replace H : (if t350 < 0 then (some true) else ((laws_toModuleS.f k l0).bind fun t351 => ((spec_FuncSeen.f k t351 a1 a2 a3).bind fun t354 => ((laws_toModuleS.f k l0).bind fun t355 => ((impl_FuncSeen.f k t355 a1 a2 a3).bind fun t358 => (if (t358 != t354) = true then (some false) else ((laws_toModuleS.f k l0).bind fun t359 => ((laws_eqModuleS.f k t355 t359).bind fun t362 => (if t362 = true then (some true) else (some false)))))))))) = some r:=H
 have A5:=Aside0.mk A50
 clear A50
 by_cases c6 : t350 < 0
 ·rw [if_pos c6] at H
  have c6b0 : decide (t350 < 0) = true:=decide_eq_true c6
  clear c6
  obtain rfl:=Option.some.inj H
  go_enter Try.func3,Try.ntmps3
  go_wp2_with (first | ((with_reducible refine gate_callee (f:=6) rfl ?_);refine goesL_ (some 15) rfl rfl Try.func6 (by kernel_rfl) rfl #[.slice A0 l0.length c0,.int .i64 1048576] rfl (by (try simp only [List.map_toArray,List.map_cons,List.map_nil]);first | done | rfl | (simp only [List.length_drop,List.length_take];rfl)) ?_;(with_reducible refine (laws_szModuleS.calls k _ _ l0 1048576 t350 _ ?side1 ?side2 A5.out).mono ?_);(case side1 => repeat (first | exact HR0.out | (with_reducible refine Kd.C_alloc ?_ _) | (with_reducible refine Kd.C_drewN ?_ _) | (with_reducible refine Kd.C_drew ?_)));(case side2 => exact HC0.out);rintro e w7 ⟨rfl,hb⟩;refine ⟨_,rfl,?_⟩;have n0_:=Up.BB HB hb;clear HB;have HB:=n0_;clear n0_;(try clear hb);(try clear hb2);(try clear hk);(try clear hi)))
  go_ret
  exact ⟨by first | rfl | (simp [errW_none,errW_some] <;> rfl) | (simp [*,errW_none,errW_some] <;> rfl),Up.Bup HB⟩
 ·rw [if_neg c6] at H
  have c6b0 : decide (t350 < 0) = false:=decide_eq_false c6
  clear c6
  replace H:=Option.bind_eq_some_iff.mp H
  obtain ⟨t351,A80,H⟩:=H
  replace H : ((spec_FuncSeen.f k t351 a1 a2 a3).bind fun t354 => ((laws_toModuleS.f k l0).bind fun t355 => ((impl_FuncSeen.f k t355 a1 a2 a3).bind fun t358 => (if (t358 != t354) = true then (some false) else ((laws_toModuleS.f k l0).bind fun t359 => ((laws_eqModuleS.f k t355 t359).bind fun t362 => (if t362 = true then (some true) else (some false)))))))) = some r:=H
  have A8:=Aside0.mk A80
  clear A80
  replace H:=Option.bind_eq_some_iff.mp H
  obtain ⟨t354,A90,H⟩:=H
  replace H : ((laws_toModuleS.f k l0).bind fun t355 => ((impl_FuncSeen.f k t355 a1 a2 a3).bind fun t358 => (if (t358 != t354) = true then (some false) else ((laws_toModuleS.f k l0).bind fun t359 => ((laws_eqModuleS.f k t355 t359).bind fun t362 => (if t362 = true then (some true) else (some false))))))) = some r:=H
  have A9:=Aside0.mk A90
  clear A90
  replace H:=Option.bind_eq_some_iff.mp H
  obtain ⟨t355,A100,H⟩:=H
  replace H : ((impl_FuncSeen.f k t355 a1 a2 a3).bind fun t358 => (if (t358 != t354) = true then (some false) else ((laws_toModuleS.f k l0).bind fun t359 => ((laws_eqModuleS.f k t355 t359).bind fun t362 => (if t362 = true then (some true) else (some false)))))) = some r:=H
  have A10:=Aside0.mk A100
  clear A100
  replace H:=Option.bind_eq_some_iff.mp H
  obtain ⟨t358,A110,H⟩:=H
  replace H : (if (t358 != t354) = true then (some false) else ((laws_toModuleS.f k l0).bind fun t359 => ((laws_eqModuleS.f k t355 t359).bind fun t362 => (if t362 = true then (some true) else (some false))))) = some r:=H
  have A11:=Aside0.mk A110
  clear A110
  by_cases c12 : (t358 != t354) = true
  ·rw [if_pos c12] at H
   have c12b0 : (t358 != t354) = true:=c12
   (try (have c12b1 : decide (t358 = t354) = false:=by simpa using c12))
   (try (have c12b2 : (t358 == t354) = false:=by simpa using c12))
   (try (have c12b3 : ¬ (t358 = t354):=by simpa using c12))
   clear c12
   obtain rfl:=Option.some.inj H
   go_enter Try.func3,Try.ntmps3
   go_wp2_with (first | ((with_reducible refine gate_callee (f:=6) rfl ?_);refine goesL_ (some 15) rfl rfl Try.func6 (by kernel_rfl) rfl #[.slice A0 l0.length c0,.int .i64 1048576] rfl (by (try simp only [List.map_toArray,List.map_cons,List.map_nil]);first | done | rfl | (simp only [List.length_drop,List.length_take];rfl)) ?_;(with_reducible refine (laws_szModuleS.calls k _ _ l0 1048576 t350 _ ?side1 ?side2 A5.out).mono ?_);(case side1 => repeat (first | exact HR0.out | (with_reducible refine Kd.C_alloc ?_ _) | (with_reducible refine Kd.C_drewN ?_ _) | (with_reducible refine Kd.C_drew ?_)));(case side2 => exact HC0.out);rintro e w13 ⟨rfl,hb⟩;refine ⟨_,rfl,?_⟩;have n0_:=Up.BB HB hb;clear HB;have HB:=n0_;clear n0_;(try clear hb);(try clear hb2);(try clear hk);(try clear hi)) | ((with_reducible refine gate_callee (f:=8) rfl ?_);refine goesL_ (some 19) rfl rfl Try.func8 (by kernel_rfl) rfl #[.slice A0 l0.length c0] rfl (by (try simp only [List.map_toArray,List.map_cons,List.map_nil]);first | done | rfl | (simp only [List.length_drop,List.length_take];rfl)) ?_;(with_reducible refine (laws_toModuleS.calls k _ _ l0 t351 _ ?side1 ?side2 A8.out).mono ?_);(case side1 => repeat (first | exact (Kd.C_below HR0.out HB.out) | (with_reducible refine Kd.C_alloc ?_ _) | (with_reducible refine Kd.C_drewN ?_ _) | (with_reducible refine Kd.C_drew ?_)));(case side2 => exact HC0.out);rintro e w14 ⟨v352,rfl,ho0,hb⟩;refine ⟨_,rfl,?_⟩;have n0_:=Aside0.mk (Kd.R_lower ho0 (below_size (Up.Bup HB)));have n1_:=Up.BB HB hb;clear HB;have HO353:=n0_;have HB:=n1_;clear n0_ n1_;(try clear hb);(try clear hb2);(try clear hk);(try clear hi);(try clear ho0);obtain ⟨Ao15,co15,eo15⟩:=Kd.R_slice HO353.out;subst eo15) | ((with_reducible refine gate_callee (f:=7) rfl ?_);refine goesL_ (some 23) rfl rfl Try.func7 (by kernel_rfl) rfl #[.slice Ao15 t351.length co15,.int .i64 a1,.int .i64 a2,.int .i64 a3] rfl (by (try simp only [List.map_toArray,List.map_cons,List.map_nil]);first | done | rfl | (simp only [List.length_drop,List.length_take];rfl)) ?_;(with_reducible refine (spec_FuncSeen.calls k _ _ t351 a1 a2 a3 t354 _ ?side1 ?side2 A9.out).mono ?_);(case side1 => repeat (first | exact (Kd.R_reads' HO353.out).2.2 | (with_reducible refine Kd.C_alloc ?_ _) | (with_reducible refine Kd.C_drewN ?_ _) | (with_reducible refine Kd.C_drew ?_)));(case side2 => exact (Kd.R_reads' HO353.out).2.1);rintro e w' ⟨rfl,⟨nd,rfl⟩⟩;refine ⟨_,rfl,?_⟩) | ((with_reducible refine gate_callee (f:=8) rfl ?_);refine goesL_ (some 25) rfl rfl Try.func8 (by kernel_rfl) rfl #[.slice A0 l0.length c0] rfl (by (try simp only [List.map_toArray,List.map_cons,List.map_nil]);first | done | rfl | (simp only [List.length_drop,List.length_take];rfl)) ?_;(with_reducible refine (laws_toModuleS.calls k _ _ l0 t355 _ ?side1 ?side2 A10.out).mono ?_);(case side1 => repeat (first | exact (Kd.C_below HR0.out (Up.Bup HB)) | (with_reducible refine Kd.C_alloc ?_ _) | (with_reducible refine Kd.C_drewN ?_ _) | (with_reducible refine Kd.C_drew ?_)));(case side2 => exact HC0.out);rintro e w16 ⟨v356,rfl,ho0,hb⟩;refine ⟨_,rfl,?_⟩;have n0_:=Aside0.mk (Kd.R_elder' (Up.Rup HO353) (Kd.R_base ho0) hb);have n1_:=Aside0.mk (Kd.R_lower (Kd.R_new' ho0 (Kd.R_lt (Up.Rup HO353))) (below_size (Up.Bup HB)));have n2_:=Up.BB HB hb;clear HO353;clear HB;have HO353:=n0_;have HO357:=n1_;have HB:=n2_;clear n0_ n1_ n2_;(try clear hb);(try clear hb2);(try clear hk);(try clear hi);(try clear ho0);obtain ⟨Ao17,co17,eo17⟩:=Kd.R_slice HO357.out;subst eo17) | ((with_reducible refine gate_callee (f:=9) rfl ?_);refine goesL_ (some 30) rfl rfl Try.func9 (by kernel_rfl) rfl #[.slice Ao17 t355.length co17,.int .i64 a1,.int .i64 a2,.int .i64 a3] rfl (by (try simp only [List.map_toArray,List.map_cons,List.map_nil]);first | done | rfl | (simp only [List.length_drop,List.length_take];rfl)) ?_;(with_reducible refine (impl_FuncSeen.calls k _ _ t355 a1 a2 a3 t358 _ ?side1 ?side2 A11.out).mono ?_);(case side1 => repeat (first | exact (Kd.R_reads' HO357.out).2.2 | (with_reducible refine Kd.C_alloc ?_ _) | (with_reducible refine Kd.C_drewN ?_ _) | (with_reducible refine Kd.C_drew ?_)));(case side2 => exact (Kd.R_reads' HO357.out).2.1);rintro e w18 ⟨rfl,hb⟩;refine ⟨_,rfl,?_⟩;have n0_:=Up.RB HO353 hb;have n1_:=Up.RB HO357 hb;have n2_:=Up.BB HB hb;clear HO353;clear HO357;clear HB;have HO353:=n0_;have HO357:=n1_;have HB:=n2_;clear n0_ n1_ n2_;(try clear hb);(try clear hb2);(try clear hk);(try clear hi)))
   go_ret
   exact ⟨by first | rfl | (simp [errW_none,errW_some] <;> rfl) | (simp [*,errW_none,errW_some] <;> rfl),Up.Bup HB⟩
  ·rw [if_neg c12] at H
   have c12b0 : (t358 != t354) = false:=by simpa using c12
   (try (have c12b1 : decide (t358 = t354) = true:=by simpa using c12))
   (try (have c12b2 : (t358 == t354) = true:=by simpa using c12))
   clear c12
   replace H:=Option.bind_eq_some_iff.mp H
   obtain ⟨t359,A190,H⟩:=H
   replace H : ((laws_eqModuleS.f k t355 t359).bind fun t362 => (if t362 = true then (some true) else (some false))) = some r:=H
   have A19:=Aside0.mk A190
   clear A190
   replace H:=Option.bind_eq_some_iff.mp H
   obtain ⟨t362,A200,H⟩:=H
   replace H : (if t362 = true then (some true) else (some false)) = some r:=H
   have A20:=Aside0.mk A200
   clear A200
   by_cases c21 : t362 = true
   ·subst c21
    have H1 : (some true) = some r:=by rw [if_pos rfl] at H;exact H
    clear H
    have H:=H1
    clear H1
    obtain rfl:=Option.some.inj H
    go_enter Try.func3,Try.ntmps3
    go_wp2_with (first | ((with_reducible refine gate_callee (f:=6) rfl ?_);refine goesL_ (some 15) rfl rfl Try.func6 (by kernel_rfl) rfl #[.slice A0 l0.length c0,.int .i64 1048576] rfl (by (try simp only [List.map_toArray,List.map_cons,List.map_nil]);first | done | rfl | (simp only [List.length_drop,List.length_take];rfl)) ?_;(with_reducible refine (laws_szModuleS.calls k _ _ l0 1048576 t350 _ ?side1 ?side2 A5.out).mono ?_);(case side1 => repeat (first | exact HR0.out | (with_reducible refine Kd.C_alloc ?_ _) | (with_reducible refine Kd.C_drewN ?_ _) | (with_reducible refine Kd.C_drew ?_)));(case side2 => exact HC0.out);rintro e w22 ⟨rfl,hb⟩;refine ⟨_,rfl,?_⟩;have n0_:=Up.BB HB hb;clear HB;have HB:=n0_;clear n0_;(try clear hb);(try clear hb2);(try clear hk);(try clear hi)) | ((with_reducible refine gate_callee (f:=8) rfl ?_);refine goesL_ (some 19) rfl rfl Try.func8 (by kernel_rfl) rfl #[.slice A0 l0.length c0] rfl (by (try simp only [List.map_toArray,List.map_cons,List.map_nil]);first | done | rfl | (simp only [List.length_drop,List.length_take];rfl)) ?_;(with_reducible refine (laws_toModuleS.calls k _ _ l0 t351 _ ?side1 ?side2 A8.out).mono ?_);(case side1 => repeat (first | exact (Kd.C_below HR0.out HB.out) | (with_reducible refine Kd.C_alloc ?_ _) | (with_reducible refine Kd.C_drewN ?_ _) | (with_reducible refine Kd.C_drew ?_)));(case side2 => exact HC0.out);rintro e w23 ⟨v352,rfl,ho0,hb⟩;refine ⟨_,rfl,?_⟩;have n0_:=Aside0.mk (Kd.R_lower ho0 (below_size (Up.Bup HB)));have n1_:=Up.BB HB hb;clear HB;have HO353:=n0_;have HB:=n1_;clear n0_ n1_;(try clear hb);(try clear hb2);(try clear hk);(try clear hi);(try clear ho0);obtain ⟨Ao24,co24,eo24⟩:=Kd.R_slice HO353.out;subst eo24) | ((with_reducible refine gate_callee (f:=7) rfl ?_);refine goesL_ (some 23) rfl rfl Try.func7 (by kernel_rfl) rfl #[.slice Ao24 t351.length co24,.int .i64 a1,.int .i64 a2,.int .i64 a3] rfl (by (try simp only [List.map_toArray,List.map_cons,List.map_nil]);first | done | rfl | (simp only [List.length_drop,List.length_take];rfl)) ?_;(with_reducible refine (spec_FuncSeen.calls k _ _ t351 a1 a2 a3 t354 _ ?side1 ?side2 A9.out).mono ?_);(case side1 => repeat (first | exact (Kd.R_reads' HO353.out).2.2 | (with_reducible refine Kd.C_alloc ?_ _) | (with_reducible refine Kd.C_drewN ?_ _) | (with_reducible refine Kd.C_drew ?_)));(case side2 => exact (Kd.R_reads' HO353.out).2.1);rintro e w' ⟨rfl,⟨nd,rfl⟩⟩;refine ⟨_,rfl,?_⟩) | ((with_reducible refine gate_callee (f:=8) rfl ?_);refine goesL_ (some 25) rfl rfl Try.func8 (by kernel_rfl) rfl #[.slice A0 l0.length c0] rfl (by (try simp only [List.map_toArray,List.map_cons,List.map_nil]);first | done | rfl | (simp only [List.length_drop,List.length_take];rfl)) ?_;(with_reducible refine (laws_toModuleS.calls k _ _ l0 t355 _ ?side1 ?side2 A10.out).mono ?_);(case side1 => repeat (first | exact (Kd.C_below HR0.out (Up.Bup HB)) | (with_reducible refine Kd.C_alloc ?_ _) | (with_reducible refine Kd.C_drewN ?_ _) | (with_reducible refine Kd.C_drew ?_)));(case side2 => exact HC0.out);rintro e w25 ⟨v356,rfl,ho0,hb⟩;refine ⟨_,rfl,?_⟩;have n0_:=Aside0.mk (Kd.R_elder' (Up.Rup HO353) (Kd.R_base ho0) hb);have n1_:=Aside0.mk (Kd.R_lower (Kd.R_new' ho0 (Kd.R_lt (Up.Rup HO353))) (below_size (Up.Bup HB)));have n2_:=Up.BB HB hb;clear HO353;clear HB;have HO353:=n0_;have HO357:=n1_;have HB:=n2_;clear n0_ n1_ n2_;(try clear hb);(try clear hb2);(try clear hk);(try clear hi);(try clear ho0);obtain ⟨Ao26,co26,eo26⟩:=Kd.R_slice HO357.out;subst eo26) | ((with_reducible refine gate_callee (f:=9) rfl ?_);refine goesL_ (some 30) rfl rfl Try.func9 (by kernel_rfl) rfl #[.slice Ao26 t355.length co26,.int .i64 a1,.int .i64 a2,.int .i64 a3] rfl (by (try simp only [List.map_toArray,List.map_cons,List.map_nil]);first | done | rfl | (simp only [List.length_drop,List.length_take];rfl)) ?_;(with_reducible refine (impl_FuncSeen.calls k _ _ t355 a1 a2 a3 t358 _ ?side1 ?side2 A11.out).mono ?_);(case side1 => repeat (first | exact (Kd.R_reads' HO357.out).2.2 | (with_reducible refine Kd.C_alloc ?_ _) | (with_reducible refine Kd.C_drewN ?_ _) | (with_reducible refine Kd.C_drew ?_)));(case side2 => exact (Kd.R_reads' HO357.out).2.1);rintro e w27 ⟨rfl,hb⟩;refine ⟨_,rfl,?_⟩;have n0_:=Up.RB HO353 hb;have n1_:=Up.RB HO357 hb;have n2_:=Up.BB HB hb;clear HO353;clear HO357;clear HB;have HO353:=n0_;have HO357:=n1_;have HB:=n2_;clear n0_ n1_ n2_;(try clear hb);(try clear hb2);(try clear hk);(try clear hi)) | ((with_reducible refine gate_callee (f:=8) rfl ?_);refine goesL_ (some 36) rfl rfl Try.func8 (by kernel_rfl) rfl #[.slice A0 l0.length c0] rfl (by (try simp only [List.map_toArray,List.map_cons,List.map_nil]);first | done | rfl | (simp only [List.length_drop,List.length_take];rfl)) ?_;(with_reducible refine (laws_toModuleS.calls k _ _ l0 t359 _ ?side1 ?side2 A19.out).mono ?_);(case side1 => repeat (first | exact (Kd.C_below HR0.out HB.out) | (with_reducible refine Kd.C_alloc ?_ _) | (with_reducible refine Kd.C_drewN ?_ _) | (with_reducible refine Kd.C_drew ?_)));(case side2 => exact HC0.out);rintro e w28 ⟨v360,rfl,ho0,hb⟩;refine ⟨_,rfl,?_⟩;have n0_:=Aside0.mk (Kd.R_elder' (Up.Rup HO353) (Kd.R_base ho0) hb);have n1_:=Aside0.mk (Kd.R_elder' (Up.Rup HO357) (Kd.R_base ho0) hb);have n2_:=Aside0.mk (Kd.R_lower (Kd.R_new' (Kd.R_new' ho0 (Kd.R_lt (Up.Rup HO353))) (Kd.R_lt (Up.Rup HO357))) (below_size (Up.Bup HB)));have n3_:=Up.BB HB hb;clear HO353;clear HO357;clear HB;have HO353:=n0_;have HO357:=n1_;have HO361:=n2_;have HB:=n3_;clear n0_ n1_ n2_ n3_;(try clear hb);(try clear hb2);(try clear hk);(try clear hi);(try clear ho0);obtain ⟨Ao29,co29,eo29⟩:=Kd.R_slice HO361.out;subst eo29) | ((with_reducible refine gate_callee (f:=10) rfl ?_);refine goesL_ (some 37) rfl rfl Try.func10 (by kernel_rfl) rfl #[.slice Ao26 t355.length co26,.slice Ao29 t359.length co29] rfl (by (try simp only [List.map_toArray,List.map_cons,List.map_nil]);first | done | rfl | (simp only [List.length_drop,List.length_take];rfl)) ?_;(with_reducible refine (laws_eqModuleS.calls k _ _ t355 _ _ t359 true _ ?side1 ?side2 ?side3 ?side4 A20.out).mono ?_);(case side1 => repeat (first | exact (Kd.R_reads' HO357.out).2.2 | (with_reducible refine Kd.C_alloc ?_ _) | (with_reducible refine Kd.C_drewN ?_ _) | (with_reducible refine Kd.C_drew ?_)));(case side2 => exact (Kd.R_reads' HO357.out).2.1);(case side3 => repeat (first | exact (Kd.R_reads' HO361.out).2.2 | (with_reducible refine Kd.C_alloc ?_ _) | (with_reducible refine Kd.C_drewN ?_ _) | (with_reducible refine Kd.C_drew ?_)));(case side4 => exact (Kd.R_reads' HO361.out).2.1);rintro e w30 ⟨rfl,hb⟩;refine ⟨_,rfl,?_⟩;have n0_:=Up.RB HO353 hb;have n1_:=Up.RB HO357 hb;have n2_:=Up.RB HO361 hb;have n3_:=Up.BB HB hb;clear HO353;clear HO357;clear HO361;clear HB;have HO353:=n0_;have HO357:=n1_;have HO361:=n2_;have HB:=n3_;clear n0_ n1_ n2_ n3_;(try clear hb);(try clear hb2);(try clear hk);(try clear hi)))
    go_ret
    exact ⟨by first | rfl | (simp [errW_none,errW_some] <;> rfl) | (simp [*,errW_none,errW_some] <;> rfl),Up.Bup HB⟩
   ·replace c21:=Bool.eq_false_iff.mpr c21
    subst c21
    have H1 : (some false) = some r:=by rw [if_neg (show ¬ (false = true) by decide)] at H;exact H
    clear H
    have H:=H1
    clear H1
    obtain rfl:=Option.some.inj H
    go_enter Try.func3,Try.ntmps3
    go_wp2_with (first | ((with_reducible refine gate_callee (f:=6) rfl ?_);refine goesL_ (some 15) rfl rfl Try.func6 (by kernel_rfl) rfl #[.slice A0 l0.length c0,.int .i64 1048576] rfl (by (try simp only [List.map_toArray,List.map_cons,List.map_nil]);first | done | rfl | (simp only [List.length_drop,List.length_take];rfl)) ?_;(with_reducible refine (laws_szModuleS.calls k _ _ l0 1048576 t350 _ ?side1 ?side2 A5.out).mono ?_);(case side1 => repeat (first | exact HR0.out | (with_reducible refine Kd.C_alloc ?_ _) | (with_reducible refine Kd.C_drewN ?_ _) | (with_reducible refine Kd.C_drew ?_)));(case side2 => exact HC0.out);rintro e w31 ⟨rfl,hb⟩;refine ⟨_,rfl,?_⟩;have n0_:=Up.BB HB hb;clear HB;have HB:=n0_;clear n0_;(try clear hb);(try clear hb2);(try clear hk);(try clear hi)) | ((with_reducible refine gate_callee (f:=8) rfl ?_);refine goesL_ (some 19) rfl rfl Try.func8 (by kernel_rfl) rfl #[.slice A0 l0.length c0] rfl (by (try simp only [List.map_toArray,List.map_cons,List.map_nil]);first | done | rfl | (simp only [List.length_drop,List.length_take];rfl)) ?_;(with_reducible refine (laws_toModuleS.calls k _ _ l0 t351 _ ?side1 ?side2 A8.out).mono ?_);(case side1 => repeat (first | exact (Kd.C_below HR0.out HB.out) | (with_reducible refine Kd.C_alloc ?_ _) | (with_reducible refine Kd.C_drewN ?_ _) | (with_reducible refine Kd.C_drew ?_)));(case side2 => exact HC0.out);rintro e w32 ⟨v352,rfl,ho0,hb⟩;refine ⟨_,rfl,?_⟩;have n0_:=Aside0.mk (Kd.R_lower ho0 (below_size (Up.Bup HB)));have n1_:=Up.BB HB hb;clear HB;have HO353:=n0_;have HB:=n1_;clear n0_ n1_;(try clear hb);(try clear hb2);(try clear hk);(try clear hi);(try clear ho0);obtain ⟨Ao33,co33,eo33⟩:=Kd.R_slice HO353.out;subst eo33) | ((with_reducible refine gate_callee (f:=7) rfl ?_);refine goesL_ (some 23) rfl rfl Try.func7 (by kernel_rfl) rfl #[.slice Ao33 t351.length co33,.int .i64 a1,.int .i64 a2,.int .i64 a3] rfl (by (try simp only [List.map_toArray,List.map_cons,List.map_nil]);first | done | rfl | (simp only [List.length_drop,List.length_take];rfl)) ?_;(with_reducible refine (spec_FuncSeen.calls k _ _ t351 a1 a2 a3 t354 _ ?side1 ?side2 A9.out).mono ?_);(case side1 => repeat (first | exact (Kd.R_reads' HO353.out).2.2 | (with_reducible refine Kd.C_alloc ?_ _) | (with_reducible refine Kd.C_drewN ?_ _) | (with_reducible refine Kd.C_drew ?_)));(case side2 => exact (Kd.R_reads' HO353.out).2.1);rintro e w' ⟨rfl,⟨nd,rfl⟩⟩;refine ⟨_,rfl,?_⟩) | ((with_reducible refine gate_callee (f:=8) rfl ?_);refine goesL_ (some 25) rfl rfl Try.func8 (by kernel_rfl) rfl #[.slice A0 l0.length c0] rfl (by (try simp only [List.map_toArray,List.map_cons,List.map_nil]);first | done | rfl | (simp only [List.length_drop,List.length_take];rfl)) ?_;(with_reducible refine (laws_toModuleS.calls k _ _ l0 t355 _ ?side1 ?side2 A10.out).mono ?_);(case side1 => repeat (first | exact (Kd.C_below HR0.out (Up.Bup HB)) | (with_reducible refine Kd.C_alloc ?_ _) | (with_reducible refine Kd.C_drewN ?_ _) | (with_reducible refine Kd.C_drew ?_)));(case side2 => exact HC0.out);rintro e w34 ⟨v356,rfl,ho0,hb⟩;refine ⟨_,rfl,?_⟩;have n0_:=Aside0.mk (Kd.R_elder' (Up.Rup HO353) (Kd.R_base ho0) hb);have n1_:=Aside0.mk (Kd.R_lower (Kd.R_new' ho0 (Kd.R_lt (Up.Rup HO353))) (below_size (Up.Bup HB)));have n2_:=Up.BB HB hb;clear HO353;clear HB;have HO353:=n0_;have HO357:=n1_;have HB:=n2_;clear n0_ n1_ n2_;(try clear hb);(try clear hb2);(try clear hk);(try clear hi);(try clear ho0);obtain ⟨Ao35,co35,eo35⟩:=Kd.R_slice HO357.out;subst eo35) | ((with_reducible refine gate_callee (f:=9) rfl ?_);refine goesL_ (some 30) rfl rfl Try.func9 (by kernel_rfl) rfl #[.slice Ao35 t355.length co35,.int .i64 a1,.int .i64 a2,.int .i64 a3] rfl (by (try simp only [List.map_toArray,List.map_cons,List.map_nil]);first | done | rfl | (simp only [List.length_drop,List.length_take];rfl)) ?_;(with_reducible refine (impl_FuncSeen.calls k _ _ t355 a1 a2 a3 t358 _ ?side1 ?side2 A11.out).mono ?_);(case side1 => repeat (first | exact (Kd.R_reads' HO357.out).2.2 | (with_reducible refine Kd.C_alloc ?_ _) | (with_reducible refine Kd.C_drewN ?_ _) | (with_reducible refine Kd.C_drew ?_)));(case side2 => exact (Kd.R_reads' HO357.out).2.1);rintro e w36 ⟨rfl,hb⟩;refine ⟨_,rfl,?_⟩;have n0_:=Up.RB HO353 hb;have n1_:=Up.RB HO357 hb;have n2_:=Up.BB HB hb;clear HO353;clear HO357;clear HB;have HO353:=n0_;have HO357:=n1_;have HB:=n2_;clear n0_ n1_ n2_;(try clear hb);(try clear hb2);(try clear hk);(try clear hi)) | ((with_reducible refine gate_callee (f:=8) rfl ?_);refine goesL_ (some 36) rfl rfl Try.func8 (by kernel_rfl) rfl #[.slice A0 l0.length c0] rfl (by (try simp only [List.map_toArray,List.map_cons,List.map_nil]);first | done | rfl | (simp only [List.length_drop,List.length_take];rfl)) ?_;(with_reducible refine (laws_toModuleS.calls k _ _ l0 t359 _ ?side1 ?side2 A19.out).mono ?_);(case side1 => repeat (first | exact (Kd.C_below HR0.out HB.out) | (with_reducible refine Kd.C_alloc ?_ _) | (with_reducible refine Kd.C_drewN ?_ _) | (with_reducible refine Kd.C_drew ?_)));(case side2 => exact HC0.out);rintro e w37 ⟨v360,rfl,ho0,hb⟩;refine ⟨_,rfl,?_⟩;have n0_:=Aside0.mk (Kd.R_elder' (Up.Rup HO353) (Kd.R_base ho0) hb);have n1_:=Aside0.mk (Kd.R_elder' (Up.Rup HO357) (Kd.R_base ho0) hb);have n2_:=Aside0.mk (Kd.R_lower (Kd.R_new' (Kd.R_new' ho0 (Kd.R_lt (Up.Rup HO353))) (Kd.R_lt (Up.Rup HO357))) (below_size (Up.Bup HB)));have n3_:=Up.BB HB hb;clear HO353;clear HO357;clear HB;have HO353:=n0_;have HO357:=n1_;have HO361:=n2_;have HB:=n3_;clear n0_ n1_ n2_ n3_;(try clear hb);(try clear hb2);(try clear hk);(try clear hi);(try clear ho0);obtain ⟨Ao38,co38,eo38⟩:=Kd.R_slice HO361.out;subst eo38) | ((with_reducible refine gate_callee (f:=10) rfl ?_);refine goesL_ (some 37) rfl rfl Try.func10 (by kernel_rfl) rfl #[.slice Ao35 t355.length co35,.slice Ao38 t359.length co38] rfl (by (try simp only [List.map_toArray,List.map_cons,List.map_nil]);first | done | rfl | (simp only [List.length_drop,List.length_take];rfl)) ?_;(with_reducible refine (laws_eqModuleS.calls k _ _ t355 _ _ t359 false _ ?side1 ?side2 ?side3 ?side4 A20.out).mono ?_);(case side1 => repeat (first | exact (Kd.R_reads' HO357.out).2.2 | (with_reducible refine Kd.C_alloc ?_ _) | (with_reducible refine Kd.C_drewN ?_ _) | (with_reducible refine Kd.C_drew ?_)));(case side2 => exact (Kd.R_reads' HO357.out).2.1);(case side3 => repeat (first | exact (Kd.R_reads' HO361.out).2.2 | (with_reducible refine Kd.C_alloc ?_ _) | (with_reducible refine Kd.C_drewN ?_ _) | (with_reducible refine Kd.C_drew ?_)));(case side4 => exact (Kd.R_reads' HO361.out).2.1);rintro e w39 ⟨rfl,hb⟩;refine ⟨_,rfl,?_⟩;have n0_:=Up.RB HO353 hb;have n1_:=Up.RB HO357 hb;have n2_:=Up.RB HO361 hb;have n3_:=Up.BB HB hb;clear HO353;clear HO357;clear HO361;clear HB;have HO353:=n0_;have HO357:=n1_;have HO361:=n2_;have HB:=n3_;clear n0_ n1_ n2_ n3_;(try clear hb);(try clear hb2);(try clear hk);(try clear hi)))
    go_ret
    exact ⟨by first | rfl | (simp [errW_none,errW_some] <;> rfl) | (simp [*,errW_none,errW_some] <;> rfl),Up.Bup HB⟩

end Go.Proofs.Ytcdamcfklehedaa.OFnExactFuncSeen
