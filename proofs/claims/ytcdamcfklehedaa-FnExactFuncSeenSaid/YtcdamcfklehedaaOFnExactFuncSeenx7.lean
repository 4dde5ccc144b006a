-- Laid by a program of this session (wip/myprint.py): the kit's print of the functions, contracts of our own among them.
import Derived.Test.YtcdamcfklehedaaOFnExactFuncSeenx0
import Derived.Test.YtcdamcfklehedaaOFnExactFuncSeenx5
import Derived.Test.YtcdamcfklehedaaOFnExactFuncSeenx6
namespace Go.Proofs.Ytcdamcfklehedaa.OFnExactFuncSeen
open Go.RowKit Go.Proofs.YtcdamcfklehedaaW.PrintWords Go.Proofs.YtcdamcfklehedaaW.PrintLast Go.Proofs.YtcdamcfklehedaaW.PrintMore
attribute [local go_sem] max2_int min2_int max_two min_two max_three min_three max_four min_four   -- for this text's walks alone
set_option linter.unusedVariables false
set_option linter.unusedSimpArgs false

/-! ### laws_eqFuncS: function 53 -/
def laws_eqFuncS.l0 : Nat → List (S39) → List (S39) → Int → Option (Bool)
 | 0,_,_,_ => none
 | k + 1,x0,x1,x5 => if x5 < (x0.length : Int) then (if 0 ≤ x5 then (if x5 < (x1.length : Int) then ((laws_eqFunc.f k ((rd_T39 x0 x5).f0) ((rd_T39 x0 x5).f1) ((rd_T39 x0 x5).f2) ((rd_T39 x0 x5).f3) ((rd_T39 x0 x5).f4) ((rd_T39 x0 x5).f5) ((rd_T39 x1 x5).f0) ((rd_T39 x1 x5).f1) ((rd_T39 x1 x5).f2) ((rd_T39 x1 x5).f3) ((rd_T39 x1 x5).f4) ((rd_T39 x1 x5).f5)).bind fun t341 => (if t341 = true then (laws_eqFuncS.l0 k x0 x1 (wrap64 (x5 + 1))) else (some false))) else (none)) else (none)) else (some true)
def laws_eqFuncS.f (k : Nat) (l0 : List (S39)) (l1 : List (S39)) : Option (Bool):=if (l0.length : Int) = (l1.length : Int) then (laws_eqFuncS.l0 k l0 l1 0) else (some false)
theorem laws_eqFuncS.mono_l : ∀ k,(∀ y0 y1 y2,LeO (laws_eqFuncS.l0 k y0 y1 y2) (laws_eqFuncS.l0 (k + 1) y0 y1 y2))
 | 0 => fun _ _ _ r h => by simp [laws_eqFuncS.l0] at h
 | k + 1 => by
  have ih0:=laws_eqFuncS.mono_l k
  ·intro y0 y1 y2
   unfold laws_eqFuncS.l0
   repeat' first
   | (with_reducible exact ih0 _ _ _)
   | (with_reducible exact laws_eqFunc.mono _ _ _ _ _ _ _ _ _ _ _ _ _)
   | (with_reducible exact LeO.refl _)
   | (with_reducible exact LeO.none _)
   | (with_reducible refine LeO.ite ?_ ?_)
   | (with_reducible refine LeO.bind ?_ (fun _ => ?_))
   | exact ih0 _ _ _
   | exact laws_eqFunc.mono _ _ _ _ _ _ _ _ _ _ _ _ _
   | exact LeO.none _
   | refine LeO.ite ?_ ?_
   | refine LeO.bind ?_ (fun _ => ?_)
theorem laws_eqFuncS.mono : ∀ a0 a1 k,LeO (laws_eqFuncS.f k a0 a1) (laws_eqFuncS.f (k + 1) a0 a1):=by
 intro a0 a1 k
 have ih0:=laws_eqFuncS.mono_l k
 unfold laws_eqFuncS.f
 repeat' first
   | (with_reducible exact ih0 _ _ _)
   | (with_reducible exact laws_eqFunc.mono _ _ _ _ _ _ _ _ _ _ _ _ _)
   | (with_reducible exact LeO.refl _)
   | (with_reducible exact LeO.none _)
   | (with_reducible refine LeO.ite ?_ ?_)
   | (with_reducible refine LeO.bind ?_ (fun _ => ?_))
   | exact ih0 _ _ _
   | exact laws_eqFunc.mono _ _ _ _ _ _ _ _ _ _ _ _ _
   | exact LeO.none _
   | refine LeO.ite ?_ ?_
   | refine LeO.bind ?_ (fun _ => ?_)
def laws_eqFuncS.T6 : Bool × List (List Nat × List Nat):=(true,[([],[]),([],[]),([0,1],[0,1]),([2],[2]),([],[]),([],[]),([4,5],[4,5]),([6],[6]),([3,7],[3,7]),([8],[8])])
def laws_eqFuncS.B6 : List Nat:=[0,0,3,7,0,0,48,112,255,511]
theorem laws_eqFuncS.tab6 : rtab .any (opsOf Try.f53 6) = laws_eqFuncS.T6:=by kernel_rfl
theorem laws_eqFuncS.bits6 : waitsOk laws_eqFuncS.T6.2 laws_eqFuncS.B6 = true:=by kernel_rfl
set_option maxHeartbeats 8000000 in
set_option maxRecDepth 100000 in
theorem laws_eqFuncS.calls (k : Nat) (A0 : Option Addr) (c0 : Nat) (l0 : List (S39)) (A1 : Option Addr) (c1 : Nat) (l1 : List (S39)) (r : Bool) (w : World) (hr0 : Kd.C k39 w A0 l0.length l0) (hc0 : l0.length ≤ c0) (hr1 : Kd.C k39 w A1 l1.length l1) (hc1 : l1.length ≤ c1) (h : laws_eqFuncS.f k l0 l1 = some r) :
  Calls Try.prog 53 #[.slice A0 l0.length c0,.slice A1 l1.length c1] w fun e w' => e = .returned (.bool r) ∧ Below w.heap.size w w':=by
 have hu39:=Try.underlying39
 have HR0:=Aside0.mk hr0
 have HC0:=Aside0.mk hc0
 clear hr0 hc0
 have HR1:=Aside0.mk hr1
 have HC1:=Aside0.mk hc1
 clear hr1 hc1
 have HB:=Aside0.mk (Below.refl w.heap.size w)
 have H : (if (l0.length : Int) = (l1.length : Int) then (laws_eqFuncS.l0 k l0 l1 0) else (some false)) = some r:=h
 clear h
 by_cases c3 : (l0.length : Int) = (l1.length : Int)
 ·rw [if_pos c3] at H
  have c3b0 : ((l0.length : Int) == (l1.length : Int)) = true:=beq_iff_eq.mpr c3
  have c3b1 : ((l0.length : Int) != (l1.length : Int)) = false:=bne_eq_false_iff_eq.mpr c3
  have c3b2 : (l0.length == l1.length) = true:=by first | simpa using c3 | (simp at c3 ⊢;omega)
  clear c3
  have H':=Aside0.mk H
  clear H
  go_enter Try.func53,Try.ntmps53
  go_wp2
  go_loopg [5] k (fun kq v5 w' => ∃ (x5_1 : Int),v5 = .int .i64 x5_1 ∧ Aside0 (laws_eqFuncS.l0 kq l0 l1 x5_1 = some r) ∧ Aside0 (kq ≤ k) ∧ Aside0 (Below w.heap.size w w'))
  case atStart => exact ⟨(0),(by first | rfl | (simp;done) | (simp [*];done)),H',⟨Nat.le_refl _⟩,⟨Up.Bup HB⟩⟩
  case round =>
   clear H'
   try clear c1
   try clear p2
   try clear c3
   try clear c3b0
   try clear c3b1
   try clear c3b2
   obtain ⟨x5_1,rfl,HA,HK1,HB⟩:=hrel
   cases gk with
   | zero => exact absurd HA.out (by simp [laws_eqFuncS.l0])
   | succ k1 =>
    have H:=HA.out
    clear HA
    simp only [laws_eqFuncS.l0] at H
    by_cases c4 : x5_1 < (l0.length : Int)
    ·rw [if_pos c4] at H
     have c4b0 : decide (x5_1 < (l0.length : Int)) = true:=decide_eq_true c4
     clear c4
     by_cases c5 : 0 ≤ x5_1
     ·rw [if_pos c5] at H
      have c5b0 : decide (0 ≤ x5_1) = true:=decide_eq_true c5
      clear c5
      by_cases c6 : x5_1 < (l1.length : Int)
      ·rw [if_pos c6] at H
       have c6b0 : decide (x5_1 < (l1.length : Int)) = true:=decide_eq_true c6
       clear c6
       replace H:=Option.bind_eq_some_iff.mp H
       obtain ⟨t341,A70,H⟩:=H
       replace H : (if t341 = true then (laws_eqFuncS.l0 k1 l0 l1 (wrap64 (x5_1 + 1))) else (some false)) = some r:=H
       have A7:=Aside0.mk A70
       clear A70
       by_cases c8 : t341 = true
       ·subst c8
        have H1 : (laws_eqFuncS.l0 k1 l0 l1 (wrap64 (x5_1 + 1))) = some r:=by rw [if_pos rfl] at H;exact H
        clear H
        have H:=H1
        clear H1
        have H':=Aside0.mk H
        clear H
        try go_wp2
        have n0_:=Aside0.mk (below_drew1 HB.out)
        clear HB
        have HB:=n0_
        clear n0_
        have p339 : 0 ≤ (x5_1 : Int):=of_decide_eq_true (by first | (with_reducible assumption) | assumption)
        have q339 : x5_1 < (l0.length : Int):=of_decide_eq_true (by first | (with_reducible assumption) | assumption)
        obtain ⟨ad339,A339_1,c339_1,A339_2,c339_2,A339_3,c339_3,A339_4,c339_4,A339_5,c339_5,e339,hx339_0,hx339_1,hx339_2,hx339_3,hx339_4,hx339_5,hl339_1,hi339_1,hl339_2,hi339_2,hl339_3,hi339_3,hl339_4,hi339_4,hl339_5,hi339_5⟩:=at_T39 HR0.out x5_1 p339 q339
        have hw339_5:=hx339_5
        have hw339_4:=hx339_4
        have hw339_3:=hx339_3
        have hw339_2:=hx339_2
        have hw339_1:=hx339_1
        have hw339_0:=hx339_0
        cases e339
        replace hx339_0:=(HB.out.cell (World.block_lt_of_cell? w _ hx339_0)).trans hx339_0
        replace hx339_1:=(HB.out.cell (World.block_lt_of_cell? w _ hx339_1)).trans hx339_1
        replace hx339_2:=(HB.out.cell (World.block_lt_of_cell? w _ hx339_2)).trans hx339_2
        replace hx339_3:=(HB.out.cell (World.block_lt_of_cell? w _ hx339_3)).trans hx339_3
        replace hx339_4:=(HB.out.cell (World.block_lt_of_cell? w _ hx339_4)).trans hx339_4
        replace hx339_5:=(HB.out.cell (World.block_lt_of_cell? w _ hx339_5)).trans hx339_5
        have HR339_1:=Aside0.mk hi339_1
        have HC339_1:=Aside0.mk hl339_1
        clear hi339_1 hl339_1
        have HR339_2:=Aside0.mk hi339_2
        have HC339_2:=Aside0.mk hl339_2
        clear hi339_2 hl339_2
        have HR339_3:=Aside0.mk hi339_3
        have HC339_3:=Aside0.mk hl339_3
        clear hi339_3 hl339_3
        have HR339_4:=Aside0.mk hi339_4
        have HC339_4:=Aside0.mk hl339_4
        clear hi339_4 hl339_4
        have HR339_5:=Aside0.mk hi339_5
        have HC339_5:=Aside0.mk hl339_5
        clear hi339_5 hl339_5
        replace p339:=eq_true p339
        replace q339:=eq_true q339
        have p340 : 0 ≤ (x5_1 : Int):=of_decide_eq_true (by first | (with_reducible assumption) | assumption)
        have q340 : x5_1 < (l1.length : Int):=of_decide_eq_true (by first | (with_reducible assumption) | assumption)
        obtain ⟨ad340,A340_1,c340_1,A340_2,c340_2,A340_3,c340_3,A340_4,c340_4,A340_5,c340_5,e340,hx340_0,hx340_1,hx340_2,hx340_3,hx340_4,hx340_5,hl340_1,hi340_1,hl340_2,hi340_2,hl340_3,hi340_3,hl340_4,hi340_4,hl340_5,hi340_5⟩:=at_T39 HR1.out x5_1 p340 q340
        have hw340_5:=hx340_5
        have hw340_4:=hx340_4
        have hw340_3:=hx340_3
        have hw340_2:=hx340_2
        have hw340_1:=hx340_1
        have hw340_0:=hx340_0
        cases e340
        replace hx340_0:=(HB.out.cell (World.block_lt_of_cell? w _ hx340_0)).trans hx340_0
        replace hx340_1:=(HB.out.cell (World.block_lt_of_cell? w _ hx340_1)).trans hx340_1
        replace hx340_2:=(HB.out.cell (World.block_lt_of_cell? w _ hx340_2)).trans hx340_2
        replace hx340_3:=(HB.out.cell (World.block_lt_of_cell? w _ hx340_3)).trans hx340_3
        replace hx340_4:=(HB.out.cell (World.block_lt_of_cell? w _ hx340_4)).trans hx340_4
        replace hx340_5:=(HB.out.cell (World.block_lt_of_cell? w _ hx340_5)).trans hx340_5
        have HR340_1:=Aside0.mk hi340_1
        have HC340_1:=Aside0.mk hl340_1
        clear hi340_1 hl340_1
        have HR340_2:=Aside0.mk hi340_2
        have HC340_2:=Aside0.mk hl340_2
        clear hi340_2 hl340_2
        have HR340_3:=Aside0.mk hi340_3
        have HC340_3:=Aside0.mk hl340_3
        clear hi340_3 hl340_3
        have HR340_4:=Aside0.mk hi340_4
        have HC340_4:=Aside0.mk hl340_4
        clear hi340_4 hl340_4
        have HR340_5:=Aside0.mk hi340_5
        have HC340_5:=Aside0.mk hl340_5
        clear hi340_5 hl340_5
        replace p340:=eq_true p340
        replace q340:=eq_true q340
        refine start_ (n:=10) (S:=fun w' => w'.cell? (ad339.add ((x5_1).toNat * 6)) = some (.int .i64 ((rd_T39 l0 x5_1).f0)) ∧ w'.cell? ⟨(ad339.add ((x5_1).toNat * 6)).block,(ad339.add ((x5_1).toNat * 6)).off + 1,none⟩ = some (.slice A339_1 ((rd_T39 l0 x5_1).f1).length c339_1) ∧ w'.cell? ⟨(ad339.add ((x5_1).toNat * 6)).block,(ad339.add ((x5_1).toNat * 6)).off + 2,none⟩ = some (.slice A339_2 ((rd_T39 l0 x5_1).f2).length c339_2) ∧ w'.cell? ⟨(ad339.add ((x5_1).toNat * 6)).block,(ad339.add ((x5_1).toNat * 6)).off + 3,none⟩ = some (.slice A339_3 ((rd_T39 l0 x5_1).f3).length c339_3) ∧ w'.cell? ⟨(ad339.add ((x5_1).toNat * 6)).block,(ad339.add ((x5_1).toNat * 6)).off + 4,none⟩ = some (.slice A339_4 ((rd_T39 l0 x5_1).f4).length c339_4) ∧ w'.cell? ⟨(ad339.add ((x5_1).toNat * 6)).block,(ad339.add ((x5_1).toNat * 6)).off + 5,none⟩ = some (.slice A339_5 ((rd_T39 l0 x5_1).f5).length c339_5) ∧ w'.cell? (ad340.add ((x5_1).toNat * 6)) = some (.int .i64 ((rd_T39 l1 x5_1).f0)) ∧ w'.cell? ⟨(ad340.add ((x5_1).toNat * 6)).block,(ad340.add ((x5_1).toNat * 6)).off + 1,none⟩ = some (.slice A340_1 ((rd_T39 l1 x5_1).f1).length c340_1) ∧ w'.cell? ⟨(ad340.add ((x5_1).toNat * 6)).block,(ad340.add ((x5_1).toNat * 6)).off + 2,none⟩ = some (.slice A340_2 ((rd_T39 l1 x5_1).f2).length c340_2) ∧ w'.cell? ⟨(ad340.add ((x5_1).toNat * 6)).block,(ad340.add ((x5_1).toNat * 6)).off + 3,none⟩ = some (.slice A340_3 ((rd_T39 l1 x5_1).f3).length c340_3) ∧ w'.cell? ⟨(ad340.add ((x5_1).toNat * 6)).block,(ad340.add ((x5_1).toNat * 6)).off + 4,none⟩ = some (.slice A340_4 ((rd_T39 l1 x5_1).f4).length c340_4) ∧ w'.cell? ⟨(ad340.add ((x5_1).toNat * 6)).block,(ad340.add ((x5_1).toNat * 6)).off + 5,none⟩ = some (.slice A340_5 ((rd_T39 l1 x5_1).f5).length c340_5)) (ds:=[]) #[false,false,false,false,false,false,false,false,false,false] (by kernel_rfl) rfl rfl ⟨((HB.out.cell (World.block_lt_of_cell? w _ hw339_0)).trans hw339_0),((HB.out.cell (World.block_lt_of_cell? w _ hw339_1)).trans hw339_1),((HB.out.cell (World.block_lt_of_cell? w _ hw339_2)).trans hw339_2),((HB.out.cell (World.block_lt_of_cell? w _ hw339_3)).trans hw339_3),((HB.out.cell (World.block_lt_of_cell? w _ hw339_4)).trans hw339_4),((HB.out.cell (World.block_lt_of_cell? w _ hw339_5)).trans hw339_5),((HB.out.cell (World.block_lt_of_cell? w _ hw340_0)).trans hw340_0),((HB.out.cell (World.block_lt_of_cell? w _ hw340_1)).trans hw340_1),((HB.out.cell (World.block_lt_of_cell? w _ hw340_2)).trans hw340_2),((HB.out.cell (World.block_lt_of_cell? w _ hw340_3)).trans hw340_3),((HB.out.cell (World.block_lt_of_cell? w _ hw340_4)).trans hw340_4),((HB.out.cell (World.block_lt_of_cell? w _ hw340_5)).trans hw340_5)⟩ (fun hHeld => ?_);refine with_tabW laws_eqFuncS.tab6 laws_eqFuncS.bits6 (fun HT_ HW_ => ?_)
        generalize wr.drew = w9 at HB HR339_1 HR339_2 HR339_3 HR339_4 HR339_5 HR340_1 HR340_2 HR340_3 HR340_4 HR340_5 hx339_0 hx339_1 hx339_2 hx339_3 hx339_4 hx339_5 hx340_0 hx340_1 hx340_2 hx340_3 hx340_4 hx340_5 hHeld ⊢
        refine pure_ (i:=0) (N:=some 17) (v:=?_) (a':=?_) #[true,false,false,false,false,false,false,false,false,false] rfl rfl (any_of HT_.out (by kernel_rfl)) (fun _ _ _ h => h) (Or.inl ⟨by rfl,?_⟩) ?_ ?_
        rotate_left
        ·intro w'
         go_simp
         with_reducible rfl
        rotate_left
        ·simp only [Act.put,List.setIfInBounds_toArray,List.set_cons_zero,List.set_cons_succ,i64_w,i32_w]
         rfl
        refine pure_ (i:=1) (N:=some 18) (v:=?_) (a':=?_) #[true,true,false,false,false,false,false,false,false,false] rfl rfl (any_of HT_.out (by kernel_rfl)) (fun _ _ _ h => h) (Or.inl ⟨by rfl,?_⟩) ?_ ?_
        rotate_left
        ·intro w'
         go_simp
         with_reducible rfl
        rotate_left
        ·simp only [Act.put,List.setIfInBounds_toArray,List.set_cons_zero,List.set_cons_succ,i64_w,i32_w]
         rfl
        refine pure_ (i:=2) (N:=some 19) (v:=?_) (a':=?_) #[true,true,true,false,false,false,false,false,false,false] rfl rfl (any_of HT_.out (by kernel_rfl)) (fun _ _ _ h => h) (Or.inl ⟨by rfl,?_⟩) ?_ ?_
        rotate_left
        ·intro w'
         go_simp
         with_reducible rfl
        rotate_left
        ·simp only [Act.put,List.setIfInBounds_toArray,List.set_cons_zero,List.set_cons_succ,i64_w,i32_w]
         rfl
        refine pure_ (i:=4) (N:=some 21) (v:=?_) (a':=?_) #[true,true,true,false,true,false,false,false,false,false] rfl rfl (any_of HT_.out (by kernel_rfl)) (fun _ _ _ h => h) (Or.inl ⟨by rfl,?_⟩) ?_ ?_
        rotate_left
        ·intro w'
         go_simp
         with_reducible rfl
        rotate_left
        ·simp only [Act.put,List.setIfInBounds_toArray,List.set_cons_zero,List.set_cons_succ,i64_w,i32_w]
         rfl
        refine pure_ (i:=5) (N:=some 22) (v:=?_) (a':=?_) #[true,true,true,false,true,true,false,false,false,false] rfl rfl (any_of HT_.out (by kernel_rfl)) (fun _ _ _ h => h) (Or.inl ⟨by rfl,?_⟩) ?_ ?_
        rotate_left
        ·intro w'
         go_simp
         with_reducible rfl
        rotate_left
        ·simp only [Act.put,List.setIfInBounds_toArray,List.set_cons_zero,List.set_cons_succ,i64_w,i32_w]
         rfl
        refine pure_ (i:=6) (N:=some 23) (v:=?_) (a':=?_) #[true,true,true,false,true,true,true,false,false,false] rfl rfl (any_of HT_.out (by kernel_rfl)) (fun _ _ _ h => h) (Or.inl ⟨by rfl,?_⟩) ?_ ?_
        rotate_left
        ·intro w'
         go_simp
         with_reducible rfl
        rotate_left
        ·simp only [Act.put,List.setIfInBounds_toArray,List.set_cons_zero,List.set_cons_succ,i64_w,i32_w]
         rfl
        refine take_ (i:=3) (N:=some 20) (v:=?_) (a':=?_) #[true,true,true,true,true,true,true,false,false,false] rfl rfl (take_ofW HT_.out HW_.out (by kernel_rfl)) (fun _ _ _ h => h) (Or.inl ⟨by rfl,?_⟩) hHeld ?_ ?_
        rotate_left
        ·rintro w' ⟨s0,s1,s2,s3,s4,s5,s6,s7,s8,s9,s10,s11⟩
         go_simp
         with_reducible rfl
        rotate_left
        ·simp only [Act.put,List.setIfInBounds_toArray,List.set_cons_zero,List.set_cons_succ,i64_w,i32_w]
         rfl
        refine take_ (i:=7) (N:=some 24) (v:=?_) (a':=?_) #[true,true,true,true,true,true,true,true,false,false] rfl rfl (take_ofW HT_.out HW_.out (by kernel_rfl)) (fun _ _ _ h => h) (Or.inl ⟨by rfl,?_⟩) hHeld ?_ ?_
        rotate_left
        ·rintro w' ⟨s0,s1,s2,s3,s4,s5,s6,s7,s8,s9,s10,s11⟩
         go_simp
         with_reducible rfl
        rotate_left
        ·simp only [Act.put,List.setIfInBounds_toArray,List.set_cons_zero,List.set_cons_succ,i64_w,i32_w]
         rfl
        refine one_ (i:=8) (N:=some 25) #[true,true,true,true,true,true,true,true,true,false] rfl rfl (one_of HT_.out (by kernel_rfl)) (by decide) (fun K hK => ?_)
        refine goes_ Try.func19 (by kernel_rfl) rfl #[.agg #[.int .i64 ((rd_T39 l0 x5_1).f0),.slice A339_1 ((rd_T39 l0 x5_1).f1).length c339_1,.slice A339_2 ((rd_T39 l0 x5_1).f2).length c339_2,.slice A339_3 ((rd_T39 l0 x5_1).f3).length c339_3,.slice A339_4 ((rd_T39 l0 x5_1).f4).length c339_4,.slice A339_5 ((rd_T39 l0 x5_1).f5).length c339_5],.agg #[.int .i64 ((rd_T39 l1 x5_1).f0),.slice A340_1 ((rd_T39 l1 x5_1).f1).length c340_1,.slice A340_2 ((rd_T39 l1 x5_1).f2).length c340_2,.slice A340_3 ((rd_T39 l1 x5_1).f3).length c340_3,.slice A340_4 ((rd_T39 l1 x5_1).f4).length c340_4,.slice A340_5 ((rd_T39 l1 x5_1).f5).length c340_5]] (by rfl) rfl rfl (by (try simp only [List.map_toArray,List.map_cons,List.map_nil]);first | done | rfl | (simp only [List.length_drop,List.length_take];rfl)) ?_
        with_reducible refine (laws_eqFunc.calls k1 ((rd_T39 l0 x5_1).f0) _ _ ((rd_T39 l0 x5_1).f1) _ _ ((rd_T39 l0 x5_1).f2) _ _ ((rd_T39 l0 x5_1).f3) _ _ ((rd_T39 l0 x5_1).f4) _ _ ((rd_T39 l0 x5_1).f5) ((rd_T39 l1 x5_1).f0) _ _ ((rd_T39 l1 x5_1).f1) _ _ ((rd_T39 l1 x5_1).f2) _ _ ((rd_T39 l1 x5_1).f3) _ _ ((rd_T39 l1 x5_1).f4) _ _ ((rd_T39 l1 x5_1).f5) true _ ?side1 ?side2 ?side3 ?side4 ?side5 ?side6 ?side7 ?side8 ?side9 ?side10 ?side11 ?side12 ?side13 ?side14 ?side15 ?side16 ?side17 ?side18 ?side19 ?side20 A7.out).mono ?_
        (case side1 => repeat (first | exact (Kd.C_below HR339_1.out HB.out) | (with_reducible refine Kd.C_alloc ?_ _) | (with_reducible refine Kd.C_drewN ?_ _) | (with_reducible refine Kd.C_drew ?_)))
        (case side2 => exact HC339_1.out)
        (case side3 => repeat (first | exact (Kd.C_below HR339_2.out HB.out) | (with_reducible refine Kd.C_alloc ?_ _) | (with_reducible refine Kd.C_drewN ?_ _) | (with_reducible refine Kd.C_drew ?_)))
        (case side4 => exact HC339_2.out)
        (case side5 => repeat (first | exact (Kd.C_below HR339_3.out HB.out) | (with_reducible refine Kd.C_alloc ?_ _) | (with_reducible refine Kd.C_drewN ?_ _) | (with_reducible refine Kd.C_drew ?_)))
        (case side6 => exact HC339_3.out)
        (case side7 => repeat (first | exact (Kd.C_below HR339_4.out HB.out) | (with_reducible refine Kd.C_alloc ?_ _) | (with_reducible refine Kd.C_drewN ?_ _) | (with_reducible refine Kd.C_drew ?_)))
        (case side8 => exact HC339_4.out)
        (case side9 => repeat (first | exact (Kd.C_below HR339_5.out HB.out) | (with_reducible refine Kd.C_alloc ?_ _) | (with_reducible refine Kd.C_drewN ?_ _) | (with_reducible refine Kd.C_drew ?_)))
        (case side10 => exact HC339_5.out)
        (case side11 => repeat (first | exact (Kd.C_below HR340_1.out HB.out) | (with_reducible refine Kd.C_alloc ?_ _) | (with_reducible refine Kd.C_drewN ?_ _) | (with_reducible refine Kd.C_drew ?_)))
        (case side12 => exact HC340_1.out)
        (case side13 => repeat (first | exact (Kd.C_below HR340_2.out HB.out) | (with_reducible refine Kd.C_alloc ?_ _) | (with_reducible refine Kd.C_drewN ?_ _) | (with_reducible refine Kd.C_drew ?_)))
        (case side14 => exact HC340_2.out)
        (case side15 => repeat (first | exact (Kd.C_below HR340_3.out HB.out) | (with_reducible refine Kd.C_alloc ?_ _) | (with_reducible refine Kd.C_drewN ?_ _) | (with_reducible refine Kd.C_drew ?_)))
        (case side16 => exact HC340_3.out)
        (case side17 => repeat (first | exact (Kd.C_below HR340_4.out HB.out) | (with_reducible refine Kd.C_alloc ?_ _) | (with_reducible refine Kd.C_drewN ?_ _) | (with_reducible refine Kd.C_drew ?_)))
        (case side18 => exact HC340_4.out)
        (case side19 => repeat (first | exact (Kd.C_below HR340_5.out HB.out) | (with_reducible refine Kd.C_alloc ?_ _) | (with_reducible refine Kd.C_drewN ?_ _) | (with_reducible refine Kd.C_drew ?_)))
        (case side20 => exact HC340_5.out)
        rintro e w10 ⟨rfl,hb⟩
        refine ⟨_,rfl,?_⟩
        have n0_:=Up.BB HB hb
        clear HB
        have HB:=n0_
        clear n0_
        (try clear hb)
        (try clear hb2)
        (try clear hk)
        (try clear hi)
        refine hK.out _ _ ⟨((HB.out.cell (World.block_lt_of_cell? w _ hw339_0)).trans hw339_0),((HB.out.cell (World.block_lt_of_cell? w _ hw339_1)).trans hw339_1),((HB.out.cell (World.block_lt_of_cell? w _ hw339_2)).trans hw339_2),((HB.out.cell (World.block_lt_of_cell? w _ hw339_3)).trans hw339_3),((HB.out.cell (World.block_lt_of_cell? w _ hw339_4)).trans hw339_4),((HB.out.cell (World.block_lt_of_cell? w _ hw339_5)).trans hw339_5),((HB.out.cell (World.block_lt_of_cell? w _ hw340_0)).trans hw340_0),((HB.out.cell (World.block_lt_of_cell? w _ hw340_1)).trans hw340_1),((HB.out.cell (World.block_lt_of_cell? w _ hw340_2)).trans hw340_2),((HB.out.cell (World.block_lt_of_cell? w _ hw340_3)).trans hw340_3),((HB.out.cell (World.block_lt_of_cell? w _ hw340_4)).trans hw340_4),((HB.out.cell (World.block_lt_of_cell? w _ hw340_5)).trans hw340_5)⟩ (fun hHeld => ?_)
        clear hK K
        refine norm_ (a':=?_) ?_ ?_
        rotate_left
        ·show Act.put _ (some 25) _ = _
         simp only [Act.put,List.setIfInBounds_toArray,List.set_cons_zero,List.set_cons_succ,i64_w,i32_w]
         rfl
        refine pure_ (i:=9) (N:=some 26) (v:=?_) (a':=?_) #[true,true,true,true,true,true,true,true,true,true] rfl rfl (any_of HT_.out (by kernel_rfl)) (fun _ _ _ h => h) (Or.inl ⟨by rfl,?_⟩) ?_ ?_
        rotate_left
        ·intro w'
         go_simp
         with_reducible rfl
        rotate_left
        ·simp only [Act.put,List.setIfInBounds_toArray,List.set_cons_zero,List.set_cons_succ,i64_w,i32_w]
         rfl
        refine done_ (done_of HT_.out (by kernel_rfl)) ?_
        try go_wp2
        go_roundg k1
        case measure => have:=HK1.out;omega
        case rel => exact ⟨(wrap64 (x5_1 + 1)),(by first | rfl | (simp;done) | (simp [*];done)),H',⟨by have:=HK1.out;omega⟩,⟨Up.Bup HB⟩⟩
       ·replace c8:=Bool.eq_false_iff.mpr c8
        subst c8
        have H1 : (some false) = some r:=by rw [if_neg (show ¬ (false = true) by decide)] at H;exact H
        clear H
        have H:=H1
        clear H1
        obtain rfl:=Option.some.inj H
        try go_wp2
        have n0_:=Aside0.mk (below_drew1 HB.out)
        clear HB
        have HB:=n0_
        clear n0_
        have p339 : 0 ≤ (x5_1 : Int):=of_decide_eq_true (by first | (with_reducible assumption) | assumption)
        have q339 : x5_1 < (l0.length : Int):=of_decide_eq_true (by first | (with_reducible assumption) | assumption)
        obtain ⟨ad339,A339_1,c339_1,A339_2,c339_2,A339_3,c339_3,A339_4,c339_4,A339_5,c339_5,e339,hx339_0,hx339_1,hx339_2,hx339_3,hx339_4,hx339_5,hl339_1,hi339_1,hl339_2,hi339_2,hl339_3,hi339_3,hl339_4,hi339_4,hl339_5,hi339_5⟩:=at_T39 HR0.out x5_1 p339 q339
        have hw339_5:=hx339_5
        have hw339_4:=hx339_4
        have hw339_3:=hx339_3
        have hw339_2:=hx339_2
        have hw339_1:=hx339_1
        have hw339_0:=hx339_0
        cases e339
        replace hx339_0:=(HB.out.cell (World.block_lt_of_cell? w _ hx339_0)).trans hx339_0
        replace hx339_1:=(HB.out.cell (World.block_lt_of_cell? w _ hx339_1)).trans hx339_1
        replace hx339_2:=(HB.out.cell (World.block_lt_of_cell? w _ hx339_2)).trans hx339_2
        replace hx339_3:=(HB.out.cell (World.block_lt_of_cell? w _ hx339_3)).trans hx339_3
        replace hx339_4:=(HB.out.cell (World.block_lt_of_cell? w _ hx339_4)).trans hx339_4
        replace hx339_5:=(HB.out.cell (World.block_lt_of_cell? w _ hx339_5)).trans hx339_5
        have HR339_1:=Aside0.mk hi339_1
        have HC339_1:=Aside0.mk hl339_1
        clear hi339_1 hl339_1
        have HR339_2:=Aside0.mk hi339_2
        have HC339_2:=Aside0.mk hl339_2
        clear hi339_2 hl339_2
        have HR339_3:=Aside0.mk hi339_3
        have HC339_3:=Aside0.mk hl339_3
        clear hi339_3 hl339_3
        have HR339_4:=Aside0.mk hi339_4
        have HC339_4:=Aside0.mk hl339_4
        clear hi339_4 hl339_4
        have HR339_5:=Aside0.mk hi339_5
        have HC339_5:=Aside0.mk hl339_5
        clear hi339_5 hl339_5
        replace p339:=eq_true p339
        replace q339:=eq_true q339
        have p340 : 0 ≤ (x5_1 : Int):=of_decide_eq_true (by first | (with_reducible assumption) | assumption)
        have q340 : x5_1 < (l1.length : Int):=of_decide_eq_true (by first | (with_reducible assumption) | assumption)
        obtain ⟨ad340,A340_1,c340_1,A340_2,c340_2,A340_3,c340_3,A340_4,c340_4,A340_5,c340_5,e340,hx340_0,hx340_1,hx340_2,hx340_3,hx340_4,hx340_5,hl340_1,hi340_1,hl340_2,hi340_2,hl340_3,hi340_3,hl340_4,hi340_4,hl340_5,hi340_5⟩:=at_T39 HR1.out x5_1 p340 q340
        have hw340_5:=hx340_5
        have hw340_4:=hx340_4
        have hw340_3:=hx340_3
        have hw340_2:=hx340_2
        have hw340_1:=hx340_1
        have hw340_0:=hx340_0
        cases e340
        replace hx340_0:=(HB.out.cell (World.block_lt_of_cell? w _ hx340_0)).trans hx340_0
        replace hx340_1:=(HB.out.cell (World.block_lt_of_cell? w _ hx340_1)).trans hx340_1
        replace hx340_2:=(HB.out.cell (World.block_lt_of_cell? w _ hx340_2)).trans hx340_2
        replace hx340_3:=(HB.out.cell (World.block_lt_of_cell? w _ hx340_3)).trans hx340_3
        replace hx340_4:=(HB.out.cell (World.block_lt_of_cell? w _ hx340_4)).trans hx340_4
        replace hx340_5:=(HB.out.cell (World.block_lt_of_cell? w _ hx340_5)).trans hx340_5
        have HR340_1:=Aside0.mk hi340_1
        have HC340_1:=Aside0.mk hl340_1
        clear hi340_1 hl340_1
        have HR340_2:=Aside0.mk hi340_2
        have HC340_2:=Aside0.mk hl340_2
        clear hi340_2 hl340_2
        have HR340_3:=Aside0.mk hi340_3
        have HC340_3:=Aside0.mk hl340_3
        clear hi340_3 hl340_3
        have HR340_4:=Aside0.mk hi340_4
        have HC340_4:=Aside0.mk hl340_4
        clear hi340_4 hl340_4
        have HR340_5:=Aside0.mk hi340_5
        have HC340_5:=Aside0.mk hl340_5
        clear hi340_5 hl340_5
        replace p340:=eq_true p340
        replace q340:=eq_true q340
        refine start_ (n:=10) (S:=fun w' => w'.cell? (ad339.add ((x5_1).toNat * 6)) = some (.int .i64 ((rd_T39 l0 x5_1).f0)) ∧ w'.cell? ⟨(ad339.add ((x5_1).toNat * 6)).block,(ad339.add ((x5_1).toNat * 6)).off + 1,none⟩ = some (.slice A339_1 ((rd_T39 l0 x5_1).f1).length c339_1) ∧ w'.cell? ⟨(ad339.add ((x5_1).toNat * 6)).block,(ad339.add ((x5_1).toNat * 6)).off + 2,none⟩ = some (.slice A339_2 ((rd_T39 l0 x5_1).f2).length c339_2) ∧ w'.cell? ⟨(ad339.add ((x5_1).toNat * 6)).block,(ad339.add ((x5_1).toNat * 6)).off + 3,none⟩ = some (.slice A339_3 ((rd_T39 l0 x5_1).f3).length c339_3) ∧ w'.cell? ⟨(ad339.add ((x5_1).toNat * 6)).block,(ad339.add ((x5_1).toNat * 6)).off + 4,none⟩ = some (.slice A339_4 ((rd_T39 l0 x5_1).f4).length c339_4) ∧ w'.cell? ⟨(ad339.add ((x5_1).toNat * 6)).block,(ad339.add ((x5_1).toNat * 6)).off + 5,none⟩ = some (.slice A339_5 ((rd_T39 l0 x5_1).f5).length c339_5) ∧ w'.cell? (ad340.add ((x5_1).toNat * 6)) = some (.int .i64 ((rd_T39 l1 x5_1).f0)) ∧ w'.cell? ⟨(ad340.add ((x5_1).toNat * 6)).block,(ad340.add ((x5_1).toNat * 6)).off + 1,none⟩ = some (.slice A340_1 ((rd_T39 l1 x5_1).f1).length c340_1) ∧ w'.cell? ⟨(ad340.add ((x5_1).toNat * 6)).block,(ad340.add ((x5_1).toNat * 6)).off + 2,none⟩ = some (.slice A340_2 ((rd_T39 l1 x5_1).f2).length c340_2) ∧ w'.cell? ⟨(ad340.add ((x5_1).toNat * 6)).block,(ad340.add ((x5_1).toNat * 6)).off + 3,none⟩ = some (.slice A340_3 ((rd_T39 l1 x5_1).f3).length c340_3) ∧ w'.cell? ⟨(ad340.add ((x5_1).toNat * 6)).block,(ad340.add ((x5_1).toNat * 6)).off + 4,none⟩ = some (.slice A340_4 ((rd_T39 l1 x5_1).f4).length c340_4) ∧ w'.cell? ⟨(ad340.add ((x5_1).toNat * 6)).block,(ad340.add ((x5_1).toNat * 6)).off + 5,none⟩ = some (.slice A340_5 ((rd_T39 l1 x5_1).f5).length c340_5)) (ds:=[]) #[false,false,false,false,false,false,false,false,false,false] (by kernel_rfl) rfl rfl ⟨((HB.out.cell (World.block_lt_of_cell? w _ hw339_0)).trans hw339_0),((HB.out.cell (World.block_lt_of_cell? w _ hw339_1)).trans hw339_1),((HB.out.cell (World.block_lt_of_cell? w _ hw339_2)).trans hw339_2),((HB.out.cell (World.block_lt_of_cell? w _ hw339_3)).trans hw339_3),((HB.out.cell (World.block_lt_of_cell? w _ hw339_4)).trans hw339_4),((HB.out.cell (World.block_lt_of_cell? w _ hw339_5)).trans hw339_5),((HB.out.cell (World.block_lt_of_cell? w _ hw340_0)).trans hw340_0),((HB.out.cell (World.block_lt_of_cell? w _ hw340_1)).trans hw340_1),((HB.out.cell (World.block_lt_of_cell? w _ hw340_2)).trans hw340_2),((HB.out.cell (World.block_lt_of_cell? w _ hw340_3)).trans hw340_3),((HB.out.cell (World.block_lt_of_cell? w _ hw340_4)).trans hw340_4),((HB.out.cell (World.block_lt_of_cell? w _ hw340_5)).trans hw340_5)⟩ (fun hHeld => ?_);refine with_tabW laws_eqFuncS.tab6 laws_eqFuncS.bits6 (fun HT_ HW_ => ?_)
        generalize wr.drew = w11 at HB HR339_1 HR339_2 HR339_3 HR339_4 HR339_5 HR340_1 HR340_2 HR340_3 HR340_4 HR340_5 hx339_0 hx339_1 hx339_2 hx339_3 hx339_4 hx339_5 hx340_0 hx340_1 hx340_2 hx340_3 hx340_4 hx340_5 hHeld ⊢
        refine pure_ (i:=0) (N:=some 17) (v:=?_) (a':=?_) #[true,false,false,false,false,false,false,false,false,false] rfl rfl (any_of HT_.out (by kernel_rfl)) (fun _ _ _ h => h) (Or.inl ⟨by rfl,?_⟩) ?_ ?_
        rotate_left
        ·intro w'
         go_simp
         with_reducible rfl
        rotate_left
        ·simp only [Act.put,List.setIfInBounds_toArray,List.set_cons_zero,List.set_cons_succ,i64_w,i32_w]
         rfl
        refine pure_ (i:=1) (N:=some 18) (v:=?_) (a':=?_) #[true,true,false,false,false,false,false,false,false,false] rfl rfl (any_of HT_.out (by kernel_rfl)) (fun _ _ _ h => h) (Or.inl ⟨by rfl,?_⟩) ?_ ?_
        rotate_left
        ·intro w'
         go_simp
         with_reducible rfl
        rotate_left
        ·simp only [Act.put,List.setIfInBounds_toArray,List.set_cons_zero,List.set_cons_succ,i64_w,i32_w]
         rfl
        refine pure_ (i:=2) (N:=some 19) (v:=?_) (a':=?_) #[true,true,true,false,false,false,false,false,false,false] rfl rfl (any_of HT_.out (by kernel_rfl)) (fun _ _ _ h => h) (Or.inl ⟨by rfl,?_⟩) ?_ ?_
        rotate_left
        ·intro w'
         go_simp
         with_reducible rfl
        rotate_left
        ·simp only [Act.put,List.setIfInBounds_toArray,List.set_cons_zero,List.set_cons_succ,i64_w,i32_w]
         rfl
        refine pure_ (i:=4) (N:=some 21) (v:=?_) (a':=?_) #[true,true,true,false,true,false,false,false,false,false] rfl rfl (any_of HT_.out (by kernel_rfl)) (fun _ _ _ h => h) (Or.inl ⟨by rfl,?_⟩) ?_ ?_
        rotate_left
        ·intro w'
         go_simp
         with_reducible rfl
        rotate_left
        ·simp only [Act.put,List.setIfInBounds_toArray,List.set_cons_zero,List.set_cons_succ,i64_w,i32_w]
         rfl
        refine pure_ (i:=5) (N:=some 22) (v:=?_) (a':=?_) #[true,true,true,false,true,true,false,false,false,false] rfl rfl (any_of HT_.out (by kernel_rfl)) (fun _ _ _ h => h) (Or.inl ⟨by rfl,?_⟩) ?_ ?_
        rotate_left
        ·intro w'
         go_simp
         with_reducible rfl
        rotate_left
        ·simp only [Act.put,List.setIfInBounds_toArray,List.set_cons_zero,List.set_cons_succ,i64_w,i32_w]
         rfl
        refine pure_ (i:=6) (N:=some 23) (v:=?_) (a':=?_) #[true,true,true,false,true,true,true,false,false,false] rfl rfl (any_of HT_.out (by kernel_rfl)) (fun _ _ _ h => h) (Or.inl ⟨by rfl,?_⟩) ?_ ?_
        rotate_left
        ·intro w'
         go_simp
         with_reducible rfl
        rotate_left
        ·simp only [Act.put,List.setIfInBounds_toArray,List.set_cons_zero,List.set_cons_succ,i64_w,i32_w]
         rfl
        refine take_ (i:=3) (N:=some 20) (v:=?_) (a':=?_) #[true,true,true,true,true,true,true,false,false,false] rfl rfl (take_ofW HT_.out HW_.out (by kernel_rfl)) (fun _ _ _ h => h) (Or.inl ⟨by rfl,?_⟩) hHeld ?_ ?_
        rotate_left
        ·rintro w' ⟨s0,s1,s2,s3,s4,s5,s6,s7,s8,s9,s10,s11⟩
         go_simp
         with_reducible rfl
        rotate_left
        ·simp only [Act.put,List.setIfInBounds_toArray,List.set_cons_zero,List.set_cons_succ,i64_w,i32_w]
         rfl
        refine take_ (i:=7) (N:=some 24) (v:=?_) (a':=?_) #[true,true,true,true,true,true,true,true,false,false] rfl rfl (take_ofW HT_.out HW_.out (by kernel_rfl)) (fun _ _ _ h => h) (Or.inl ⟨by rfl,?_⟩) hHeld ?_ ?_
        rotate_left
        ·rintro w' ⟨s0,s1,s2,s3,s4,s5,s6,s7,s8,s9,s10,s11⟩
         go_simp
         with_reducible rfl
        rotate_left
        ·simp only [Act.put,List.setIfInBounds_toArray,List.set_cons_zero,List.set_cons_succ,i64_w,i32_w]
         rfl
        refine one_ (i:=8) (N:=some 25) #[true,true,true,true,true,true,true,true,true,false] rfl rfl (one_of HT_.out (by kernel_rfl)) (by decide) (fun K hK => ?_)
        refine goes_ Try.func19 (by kernel_rfl) rfl #[.agg #[.int .i64 ((rd_T39 l0 x5_1).f0),.slice A339_1 ((rd_T39 l0 x5_1).f1).length c339_1,.slice A339_2 ((rd_T39 l0 x5_1).f2).length c339_2,.slice A339_3 ((rd_T39 l0 x5_1).f3).length c339_3,.slice A339_4 ((rd_T39 l0 x5_1).f4).length c339_4,.slice A339_5 ((rd_T39 l0 x5_1).f5).length c339_5],.agg #[.int .i64 ((rd_T39 l1 x5_1).f0),.slice A340_1 ((rd_T39 l1 x5_1).f1).length c340_1,.slice A340_2 ((rd_T39 l1 x5_1).f2).length c340_2,.slice A340_3 ((rd_T39 l1 x5_1).f3).length c340_3,.slice A340_4 ((rd_T39 l1 x5_1).f4).length c340_4,.slice A340_5 ((rd_T39 l1 x5_1).f5).length c340_5]] (by rfl) rfl rfl (by (try simp only [List.map_toArray,List.map_cons,List.map_nil]);first | done | rfl | (simp only [List.length_drop,List.length_take];rfl)) ?_
        with_reducible refine (laws_eqFunc.calls k1 ((rd_T39 l0 x5_1).f0) _ _ ((rd_T39 l0 x5_1).f1) _ _ ((rd_T39 l0 x5_1).f2) _ _ ((rd_T39 l0 x5_1).f3) _ _ ((rd_T39 l0 x5_1).f4) _ _ ((rd_T39 l0 x5_1).f5) ((rd_T39 l1 x5_1).f0) _ _ ((rd_T39 l1 x5_1).f1) _ _ ((rd_T39 l1 x5_1).f2) _ _ ((rd_T39 l1 x5_1).f3) _ _ ((rd_T39 l1 x5_1).f4) _ _ ((rd_T39 l1 x5_1).f5) false _ ?side1 ?side2 ?side3 ?side4 ?side5 ?side6 ?side7 ?side8 ?side9 ?side10 ?side11 ?side12 ?side13 ?side14 ?side15 ?side16 ?side17 ?side18 ?side19 ?side20 A7.out).mono ?_
        (case side1 => repeat (first | exact (Kd.C_below HR339_1.out HB.out) | (with_reducible refine Kd.C_alloc ?_ _) | (with_reducible refine Kd.C_drewN ?_ _) | (with_reducible refine Kd.C_drew ?_)))
        (case side2 => exact HC339_1.out)
        (case side3 => repeat (first | exact (Kd.C_below HR339_2.out HB.out) | (with_reducible refine Kd.C_alloc ?_ _) | (with_reducible refine Kd.C_drewN ?_ _) | (with_reducible refine Kd.C_drew ?_)))
        (case side4 => exact HC339_2.out)
        (case side5 => repeat (first | exact (Kd.C_below HR339_3.out HB.out) | (with_reducible refine Kd.C_alloc ?_ _) | (with_reducible refine Kd.C_drewN ?_ _) | (with_reducible refine Kd.C_drew ?_)))
        (case side6 => exact HC339_3.out)
        (case side7 => repeat (first | exact (Kd.C_below HR339_4.out HB.out) | (with_reducible refine Kd.C_alloc ?_ _) | (with_reducible refine Kd.C_drewN ?_ _) | (with_reducible refine Kd.C_drew ?_)))
        (case side8 => exact HC339_4.out)
        (case side9 => repeat (first | exact (Kd.C_below HR339_5.out HB.out) | (with_reducible refine Kd.C_alloc ?_ _) | (with_reducible refine Kd.C_drewN ?_ _) | (with_reducible refine Kd.C_drew ?_)))
        (case side10 => exact HC339_5.out)
        (case side11 => repeat (first | exact (Kd.C_below HR340_1.out HB.out) | (with_reducible refine Kd.C_alloc ?_ _) | (with_reducible refine Kd.C_drewN ?_ _) | (with_reducible refine Kd.C_drew ?_)))
        (case side12 => exact HC340_1.out)
        (case side13 => repeat (first | exact (Kd.C_below HR340_2.out HB.out) | (with_reducible refine Kd.C_alloc ?_ _) | (with_reducible refine Kd.C_drewN ?_ _) | (with_reducible refine Kd.C_drew ?_)))
        (case side14 => exact HC340_2.out)
        (case side15 => repeat (first | exact (Kd.C_below HR340_3.out HB.out) | (with_reducible refine Kd.C_alloc ?_ _) | (with_reducible refine Kd.C_drewN ?_ _) | (with_reducible refine Kd.C_drew ?_)))
        (case side16 => exact HC340_3.out)
        (case side17 => repeat (first | exact (Kd.C_below HR340_4.out HB.out) | (with_reducible refine Kd.C_alloc ?_ _) | (with_reducible refine Kd.C_drewN ?_ _) | (with_reducible refine Kd.C_drew ?_)))
        (case side18 => exact HC340_4.out)
        (case side19 => repeat (first | exact (Kd.C_below HR340_5.out HB.out) | (with_reducible refine Kd.C_alloc ?_ _) | (with_reducible refine Kd.C_drewN ?_ _) | (with_reducible refine Kd.C_drew ?_)))
        (case side20 => exact HC340_5.out)
        rintro e w12 ⟨rfl,hb⟩
        refine ⟨_,rfl,?_⟩
        have n0_:=Up.BB HB hb
        clear HB
        have HB:=n0_
        clear n0_
        (try clear hb)
        (try clear hb2)
        (try clear hk)
        (try clear hi)
        refine hK.out _ _ ⟨((HB.out.cell (World.block_lt_of_cell? w _ hw339_0)).trans hw339_0),((HB.out.cell (World.block_lt_of_cell? w _ hw339_1)).trans hw339_1),((HB.out.cell (World.block_lt_of_cell? w _ hw339_2)).trans hw339_2),((HB.out.cell (World.block_lt_of_cell? w _ hw339_3)).trans hw339_3),((HB.out.cell (World.block_lt_of_cell? w _ hw339_4)).trans hw339_4),((HB.out.cell (World.block_lt_of_cell? w _ hw339_5)).trans hw339_5),((HB.out.cell (World.block_lt_of_cell? w _ hw340_0)).trans hw340_0),((HB.out.cell (World.block_lt_of_cell? w _ hw340_1)).trans hw340_1),((HB.out.cell (World.block_lt_of_cell? w _ hw340_2)).trans hw340_2),((HB.out.cell (World.block_lt_of_cell? w _ hw340_3)).trans hw340_3),((HB.out.cell (World.block_lt_of_cell? w _ hw340_4)).trans hw340_4),((HB.out.cell (World.block_lt_of_cell? w _ hw340_5)).trans hw340_5)⟩ (fun hHeld => ?_)
        clear hK K
        refine norm_ (a':=?_) ?_ ?_
        rotate_left
        ·show Act.put _ (some 25) _ = _
         simp only [Act.put,List.setIfInBounds_toArray,List.set_cons_zero,List.set_cons_succ,i64_w,i32_w]
         rfl
        refine pure_ (i:=9) (N:=some 26) (v:=?_) (a':=?_) #[true,true,true,true,true,true,true,true,true,true] rfl rfl (any_of HT_.out (by kernel_rfl)) (fun _ _ _ h => h) (Or.inl ⟨by rfl,?_⟩) ?_ ?_
        rotate_left
        ·intro w'
         go_simp
         with_reducible rfl
        rotate_left
        ·simp only [Act.put,List.setIfInBounds_toArray,List.set_cons_zero,List.set_cons_succ,i64_w,i32_w]
         rfl
        refine done_ (done_of HT_.out (by kernel_rfl)) ?_
        try go_wp2
        go_ret
        exact ⟨by first | rfl | (simp [errW_none,errW_some] <;> rfl) | (simp [*,errW_none,errW_some] <;> rfl),Up.Bup HB⟩
      ·rw [if_neg c6] at H
       exact absurd H (by simp)
     ·rw [if_neg c5] at H
      exact absurd H (by simp)
    ·rw [if_neg c4] at H
     have c4b0 : decide (x5_1 < (l0.length : Int)) = false:=decide_eq_false c4
     clear c4
     obtain rfl:=Option.some.inj H
     go_wp2
     go_ret
     exact ⟨by first | rfl | (simp [errW_none,errW_some] <;> rfl) | (simp [*,errW_none,errW_some] <;> rfl),Up.Bup HB⟩
 ·rw [if_neg c3] at H
  have c3b0 : ((l0.length : Int) == (l1.length : Int)) = false:=beq_eq_false_iff_ne.mpr c3
  have c3b1 : ((l0.length : Int) != (l1.length : Int)) = true:=bne_iff_ne.mpr c3
  have c3b2 : (l0.length == l1.length) = false:=by first | simpa using c3 | (simp at c3 ⊢;omega)
  obtain rfl:=Option.some.inj H
  go_enter Try.func53,Try.ntmps53
  go_wp2
  go_ret
  exact ⟨by first | rfl | (simp [errW_none,errW_some] <;> rfl) | (simp [*,errW_none,errW_some] <;> rfl),Up.Bup HB⟩

/-! ### laws_eqModule: function 28 -/
def laws_eqModule.f (k : Nat) (l0_0 : List (S60)) (l0_1 : List (S39)) (l0_2 : List Int) (l1_0 : List (S60)) (l1_1 : List (S39)) (l1_2 : List Int) : Option (Bool):=(laws_eqRecordS.f k l0_0 l1_0).bind fun t344 => (if t344 = true then ((laws_eqFuncS.f k l0_1 l1_1).bind fun t345 => (if t345 = true then ((laws_eqIntS.f k l0_2 l1_2).bind fun t346 => (if t346 = true then (some true) else (some false))) else (some false))) else (some false))
theorem laws_eqModule.mono : ∀ a0 a1 a2 a3 a4 a5 k,LeO (laws_eqModule.f k a0 a1 a2 a3 a4 a5) (laws_eqModule.f (k + 1) a0 a1 a2 a3 a4 a5):=by
 intro a0 a1 a2 a3 a4 a5 k
 unfold laws_eqModule.f
 repeat' first
   | (with_reducible exact laws_eqFuncS.mono _ _ _)
   | (with_reducible exact laws_eqIntS.mono _ _ _)
   | (with_reducible exact laws_eqRecordS.mono _ _ _)
   | (with_reducible exact LeO.refl _)
   | (with_reducible exact LeO.none _)
   | (with_reducible refine LeO.ite ?_ ?_)
   | (with_reducible refine LeO.bind ?_ (fun _ => ?_))
   | exact laws_eqFuncS.mono _ _ _
   | exact laws_eqIntS.mono _ _ _
   | exact laws_eqRecordS.mono _ _ _
   | exact LeO.none _
   | refine LeO.ite ?_ ?_
   | refine LeO.bind ?_ (fun _ => ?_)
set_option maxHeartbeats 8000000 in
set_option maxRecDepth 100000 in
theorem laws_eqModule.calls (k : Nat) (A0_0 : Option Addr) (c0_0 : Nat) (l0_0 : List (S60)) (A0_1 : Option Addr) (c0_1 : Nat) (l0_1 : List (S39)) (A0_2 : Option Addr) (c0_2 : Nat) (l0_2 : List Int) (A1_0 : Option Addr) (c1_0 : Nat) (l1_0 : List (S60)) (A1_1 : Option Addr) (c1_1 : Nat) (l1_1 : List (S39)) (A1_2 : Option Addr) (c1_2 : Nat) (l1_2 : List Int) (r : Bool) (w : World) (hr0_0 : Kd.C k60 w A0_0 l0_0.length l0_0) (hc0_0 : l0_0.length ≤ c0_0) (hr0_1 : Kd.C k39 w A0_1 l0_1.length l0_1) (hc0_1 : l0_1.length ≤ c0_1) (hr0_2 : Kd.C (Kd.int .i64) w A0_2 l0_2.length l0_2) (hc0_2 : l0_2.length ≤ c0_2) (hr1_0 : Kd.C k60 w A1_0 l1_0.length l1_0) (hc1_0 : l1_0.length ≤ c1_0) (hr1_1 : Kd.C k39 w A1_1 l1_1.length l1_1) (hc1_1 : l1_1.length ≤ c1_1) (hr1_2 : Kd.C (Kd.int .i64) w A1_2 l1_2.length l1_2) (hc1_2 : l1_2.length ≤ c1_2) (h : laws_eqModule.f k l0_0 l0_1 l0_2 l1_0 l1_1 l1_2 = some r) :
  Calls Try.prog 28 #[.agg #[.slice A0_0 l0_0.length c0_0,.slice A0_1 l0_1.length c0_1,.slice A0_2 l0_2.length c0_2],.agg #[.slice A1_0 l1_0.length c1_0,.slice A1_1 l1_1.length c1_1,.slice A1_2 l1_2.length c1_2]] w fun e w' => e = .returned (.bool r) ∧ Below w.heap.size w w':=by
 have hu55:=Try.underlying55
 have HR0_0:=Aside0.mk hr0_0
 have HC0_0:=Aside0.mk hc0_0
 clear hr0_0 hc0_0
 have HR0_1:=Aside0.mk hr0_1
 have HC0_1:=Aside0.mk hc0_1
 clear hr0_1 hc0_1
 have HR0_2:=Aside0.mk hr0_2
 have HC0_2:=Aside0.mk hc0_2
 clear hr0_2 hc0_2
 have HR1_0:=Aside0.mk hr1_0
 have HC1_0:=Aside0.mk hc1_0
 clear hr1_0 hc1_0
 have HR1_1:=Aside0.mk hr1_1
 have HC1_1:=Aside0.mk hc1_1
 clear hr1_1 hc1_1
 have HR1_2:=Aside0.mk hr1_2
 have HC1_2:=Aside0.mk hc1_2
 clear hr1_2 hc1_2
 have HB:=Aside0.mk (Below.refl w.heap.size w)
 have H : ((laws_eqRecordS.f k l0_0 l1_0).bind fun t344 => (if t344 = true then ((laws_eqFuncS.f k l0_1 l1_1).bind fun t345 => (if t345 = true then ((laws_eqIntS.f k l0_2 l1_2).bind fun t346 => (if t346 = true then (some true) else (some false))) else (some false))) else (some false))) = some r:=h
 clear h
 replace H:=Option.bind_eq_some_iff.mp H
 obtain ⟨t344,A30,H⟩:=H
 replace H : (if t344 = true then ((laws_eqFuncS.f k l0_1 l1_1).bind fun t345 => (if t345 = true then ((laws_eqIntS.f k l0_2 l1_2).bind fun t346 => (if t346 = true then (some true) else (some false))) else (some false))) else (some false)) = some r:=H
 have A3:=Aside0.mk A30
 clear A30
 by_cases c4 : t344 = true
 ·subst c4
  have H1 : ((laws_eqFuncS.f k l0_1 l1_1).bind fun t345 => (if t345 = true then ((laws_eqIntS.f k l0_2 l1_2).bind fun t346 => (if t346 = true then (some true) else (some false))) else (some false))) = some r:=by rw [if_pos rfl] at H;exact H
  clear H
  have H:=H1
  clear H1
  replace H:=Option.bind_eq_some_iff.mp H
  obtain ⟨t345,A50,H⟩:=H
  replace H : (if t345 = true then ((laws_eqIntS.f k l0_2 l1_2).bind fun t346 => (if t346 = true then (some true) else (some false))) else (some false)) = some r:=H
  have A5:=Aside0.mk A50
  clear A50
  by_cases c6 : t345 = true
  ·subst c6
   have H1 : ((laws_eqIntS.f k l0_2 l1_2).bind fun t346 => (if t346 = true then (some true) else (some false))) = some r:=by rw [if_pos rfl] at H;exact H
   clear H
   have H:=H1
   clear H1
   replace H:=Option.bind_eq_some_iff.mp H
   obtain ⟨t346,A70,H⟩:=H
   replace H : (if t346 = true then (some true) else (some false)) = some r:=H
   have A7:=Aside0.mk A70
   clear A70
   by_cases c8 : t346 = true
   ·subst c8
    have H1 : (some true) = some r:=by rw [if_pos rfl] at H;exact H
    clear H
    have H:=H1
    clear H1
    obtain rfl:=Option.some.inj H
    go_enter Try.func28,Try.ntmps28
    go_wp2_with (first | ((with_reducible refine gate_dst (N:=2) rfl ?_);refine box_event ?hg (N:=2) ?hd (cs:=#[.slice A0_0 l0_0.length c0_0,.slice A0_1 l0_1.length c0_1,.slice A0_2 l0_2.length c0_2]) (t:=55) ?hr ?_;(case hd => rfl);(case hg => rfl);(case hr => first | (go_simp;done) | (go_simp;rfl));intro gb342 hg w9 hbox hb;have n0_:=Up.BB HB hb;have n1_:=Aside0.mk (hbox);have n2_:=Aside0.mk ((by rw [hg];exact (below_size (Up.Bup HB)) : w.heap.size ≤ gb342));have n3_:=Aside0.mk ((by rw [hg];exact (below_size (Up.Bup HB)) : w.heap.size ≤ gb342));clear HB;have HB:=n0_;have BK342:=n1_;have GW342:=n2_;have GE342:=n3_;clear n0_ n1_ n2_ n3_;clear hb hbox hg) | ((with_reducible refine gate_dst (N:=3) rfl ?_);refine box_event ?hg (N:=3) ?hd (cs:=#[.slice A1_0 l1_0.length c1_0,.slice A1_1 l1_1.length c1_1,.slice A1_2 l1_2.length c1_2]) (t:=55) ?hr ?_;(case hd => rfl);(case hg => rfl);(case hr => first | (go_simp;done) | (go_simp;rfl));intro gb343 hg w10 hbox hb;have n0_:=Up.KB BK342 hb;have n1_:=Aside0.mk (below_step (by repeat (first | (with_reducible first | exact HB.out | apply below_alloc | apply pw_below_drewN | apply below_drew1 | refine below_set ?_ GE342.out) | exact HB.out)) hb);have n2_:=Aside0.mk (hbox);have n3_:=Aside0.mk ((by rw [hg];exact (below_size (by repeat (first | (with_reducible first | exact HB.out | apply below_alloc | apply pw_below_drewN | apply below_drew1 | refine below_set ?_ GE342.out) | exact HB.out))) : w.heap.size ≤ gb343));have n4_:=Aside0.mk ((by rw [hg];exact (below_size (by repeat (first | (with_reducible first | exact HB.out | apply below_alloc | apply pw_below_drewN | apply below_drew1 | refine below_set ?_ GE342.out) | exact HB.out))) : w.heap.size ≤ gb343));have n5_:=Aside0.mk ((by rw [hg];exact Nat.ne_of_lt (blk_lt (g:=gb342) (o:=.cells #[.slice A0_0 l0_0.length c0_0,.slice A0_1 l0_1.length c0_1,.slice A0_2 l0_2.length c0_2] 55 (0,0)) (Up.Kup BK342)) : gb342 ≠ gb343));have n6_:=Aside0.mk ((by rw [hg];exact Nat.ne_of_gt (blk_lt (g:=gb342) (o:=.cells #[.slice A0_0 l0_0.length c0_0,.slice A0_1 l0_1.length c0_1,.slice A0_2 l0_2.length c0_2] 55 (0,0)) (Up.Kup BK342)) : gb343 ≠ gb342));clear BK342;clear HB;have BK342:=n0_;have HB:=n1_;have BK343:=n2_;have GW343:=n3_;have GE343:=n4_;have NB342_343:=n5_;have NB343_342:=n6_;clear n0_ n1_ n2_ n3_ n4_ n5_ n6_;clear hb hbox hg;have hnb11:=NB342_343.out;have hnc11:=NB343_342.out;have hcz12_0 : w10.cell? ⟨gb342,0,none⟩ = some (.slice A0_0 l0_0.length c0_0):=(blk_cell BK342.out 0).trans rfl;have hcz12_1 : w10.cell? ⟨gb342,1,none⟩ = some (.slice A0_1 l0_1.length c0_1):=(blk_cell BK342.out 1).trans rfl;have hcz12_2 : w10.cell? ⟨gb342,2,none⟩ = some (.slice A0_2 l0_2.length c0_2):=(blk_cell BK342.out 2).trans rfl;have hfz12_0:=blk_frozen BK342.out 0;have hfz12_1:=blk_frozen BK342.out 1;have hfz12_2:=blk_frozen BK342.out 2;have hcz13_0 : w10.cell? ⟨gb343,0,none⟩ = some (.slice A1_0 l1_0.length c1_0):=(blk_cell BK343.out 0).trans rfl;have hcz13_1 : w10.cell? ⟨gb343,1,none⟩ = some (.slice A1_1 l1_1.length c1_1):=(blk_cell BK343.out 1).trans rfl;have hcz13_2 : w10.cell? ⟨gb343,2,none⟩ = some (.slice A1_2 l1_2.length c1_2):=(blk_cell BK343.out 2).trans rfl;have hfz13_0:=blk_frozen BK343.out 0;have hfz13_1:=blk_frozen BK343.out 1;have hfz13_2:=blk_frozen BK343.out 2) | ((with_reducible refine gate_callee (f:=31) rfl ?_);refine goesL_ (some 9) rfl rfl Try.func31 (by kernel_rfl) rfl #[.slice A0_0 l0_0.length c0_0,.slice A1_0 l1_0.length c1_0] rfl (by (try simp only [List.map_toArray,List.map_cons,List.map_nil]);first | done | rfl | (simp only [List.length_drop,List.length_take];rfl)) ?_;(with_reducible refine (laws_eqRecordS.calls k _ _ l0_0 _ _ l1_0 true _ ?side1 ?side2 ?side3 ?side4 A3.out).mono ?_);(case side1 => repeat (first | exact (Kd.C_below HR0_0.out HB.out) | (with_reducible refine Kd.C_alloc ?_ _) | (with_reducible refine Kd.C_drewN ?_ _) | (with_reducible refine Kd.C_drew ?_)));(case side2 => exact HC0_0.out);(case side3 => repeat (first | exact (Kd.C_below HR1_0.out HB.out) | (with_reducible refine Kd.C_alloc ?_ _) | (with_reducible refine Kd.C_drewN ?_ _) | (with_reducible refine Kd.C_drew ?_)));(case side4 => exact HC1_0.out);rintro e w14 ⟨rfl,hb⟩;refine ⟨_,rfl,?_⟩;have n0_:=Up.KB BK342 hb;have n1_:=Up.KB BK343 hb;have n2_:=Aside0.mk (below_step (by repeat (first | (with_reducible first | exact HB.out | apply below_alloc | apply pw_below_drewN | apply below_drew1 | refine below_set ?_ GE342.out | refine below_set ?_ GE343.out) | exact HB.out)) hb);clear BK342;clear BK343;clear HB;have BK342:=n0_;have BK343:=n1_;have HB:=n2_;clear n0_ n1_ n2_;(try clear hb);(try clear hb2);(try clear hk);(try clear hi);have hcz15_0 : w14.cell? ⟨gb342,0,none⟩ = some (.slice A0_0 l0_0.length c0_0):=(blk_cell BK342.out 0).trans rfl;have hcz15_1 : w14.cell? ⟨gb342,1,none⟩ = some (.slice A0_1 l0_1.length c0_1):=(blk_cell BK342.out 1).trans rfl;have hcz15_2 : w14.cell? ⟨gb342,2,none⟩ = some (.slice A0_2 l0_2.length c0_2):=(blk_cell BK342.out 2).trans rfl;have hfz15_0:=blk_frozen BK342.out 0;have hfz15_1:=blk_frozen BK342.out 1;have hfz15_2:=blk_frozen BK342.out 2;have hcz16_0 : w14.cell? ⟨gb343,0,none⟩ = some (.slice A1_0 l1_0.length c1_0):=(blk_cell BK343.out 0).trans rfl;have hcz16_1 : w14.cell? ⟨gb343,1,none⟩ = some (.slice A1_1 l1_1.length c1_1):=(blk_cell BK343.out 1).trans rfl;have hcz16_2 : w14.cell? ⟨gb343,2,none⟩ = some (.slice A1_2 l1_2.length c1_2):=(blk_cell BK343.out 2).trans rfl;have hfz16_0:=blk_frozen BK343.out 0;have hfz16_1:=blk_frozen BK343.out 1;have hfz16_2:=blk_frozen BK343.out 2) | ((with_reducible refine gate_callee (f:=53) rfl ?_);refine goesL_ (some 15) rfl rfl Try.func53 (by kernel_rfl) rfl #[.slice A0_1 l0_1.length c0_1,.slice A1_1 l1_1.length c1_1] rfl (by (try simp only [List.map_toArray,List.map_cons,List.map_nil]);first | done | rfl | (simp only [List.length_drop,List.length_take];rfl)) ?_;(with_reducible refine (laws_eqFuncS.calls k _ _ l0_1 _ _ l1_1 true _ ?side1 ?side2 ?side3 ?side4 A5.out).mono ?_);(case side1 => repeat (first | exact (Kd.C_below HR0_1.out HB.out) | (with_reducible refine Kd.C_alloc ?_ _) | (with_reducible refine Kd.C_drewN ?_ _) | (with_reducible refine Kd.C_drew ?_)));(case side2 => exact HC0_1.out);(case side3 => repeat (first | exact (Kd.C_below HR1_1.out HB.out) | (with_reducible refine Kd.C_alloc ?_ _) | (with_reducible refine Kd.C_drewN ?_ _) | (with_reducible refine Kd.C_drew ?_)));(case side4 => exact HC1_1.out);rintro e w17 ⟨rfl,hb⟩;refine ⟨_,rfl,?_⟩;have n0_:=Up.KB BK342 hb;have n1_:=Up.KB BK343 hb;have n2_:=Aside0.mk (below_step (by repeat (first | (with_reducible first | exact HB.out | apply below_alloc | apply pw_below_drewN | apply below_drew1 | refine below_set ?_ GE342.out | refine below_set ?_ GE343.out) | exact HB.out)) hb);clear BK342;clear BK343;clear HB;have BK342:=n0_;have BK343:=n1_;have HB:=n2_;clear n0_ n1_ n2_;(try clear hb);(try clear hb2);(try clear hk);(try clear hi);have hcz18_0 : w17.cell? ⟨gb342,0,none⟩ = some (.slice A0_0 l0_0.length c0_0):=(blk_cell BK342.out 0).trans rfl;have hcz18_1 : w17.cell? ⟨gb342,1,none⟩ = some (.slice A0_1 l0_1.length c0_1):=(blk_cell BK342.out 1).trans rfl;have hcz18_2 : w17.cell? ⟨gb342,2,none⟩ = some (.slice A0_2 l0_2.length c0_2):=(blk_cell BK342.out 2).trans rfl;have hfz18_0:=blk_frozen BK342.out 0;have hfz18_1:=blk_frozen BK342.out 1;have hfz18_2:=blk_frozen BK342.out 2;have hcz19_0 : w17.cell? ⟨gb343,0,none⟩ = some (.slice A1_0 l1_0.length c1_0):=(blk_cell BK343.out 0).trans rfl;have hcz19_1 : w17.cell? ⟨gb343,1,none⟩ = some (.slice A1_1 l1_1.length c1_1):=(blk_cell BK343.out 1).trans rfl;have hcz19_2 : w17.cell? ⟨gb343,2,none⟩ = some (.slice A1_2 l1_2.length c1_2):=(blk_cell BK343.out 2).trans rfl;have hfz19_0:=blk_frozen BK343.out 0;have hfz19_1:=blk_frozen BK343.out 1;have hfz19_2:=blk_frozen BK343.out 2) | ((with_reducible refine gate_callee (f:=39) rfl ?_);refine goesL_ (some 21) rfl rfl Try.func39 (by kernel_rfl) rfl #[.slice A0_2 l0_2.length c0_2,.slice A1_2 l1_2.length c1_2] rfl (by (try simp only [List.map_toArray,List.map_cons,List.map_nil]);first | done | rfl | (simp only [List.length_drop,List.length_take];rfl)) ?_;(with_reducible refine (laws_eqIntS.calls k _ _ l0_2 _ _ l1_2 true _ ?side1 ?side2 ?side3 ?side4 A7.out).mono ?_);(case side1 => repeat (first | exact (Kd.C_below HR0_2.out HB.out) | (with_reducible refine Kd.C_alloc ?_ _) | (with_reducible refine Kd.C_drewN ?_ _) | (with_reducible refine Kd.C_drew ?_)));(case side2 => exact HC0_2.out);(case side3 => repeat (first | exact (Kd.C_below HR1_2.out HB.out) | (with_reducible refine Kd.C_alloc ?_ _) | (with_reducible refine Kd.C_drewN ?_ _) | (with_reducible refine Kd.C_drew ?_)));(case side4 => exact HC1_2.out);rintro e w' ⟨rfl,⟨nd,rfl⟩⟩;refine ⟨_,rfl,?_⟩))
    go_ret
    exact ⟨by first | rfl | (simp [errW_none,errW_some] <;> rfl) | (simp [*,errW_none,errW_some] <;> rfl),by repeat (first | (with_reducible first | exact HB.out | apply below_alloc | apply pw_below_drewN | apply below_drew1 | refine below_set ?_ GE342.out | refine below_set ?_ GE343.out) | exact HB.out)⟩
   ·replace c8:=Bool.eq_false_iff.mpr c8
    subst c8
    have H1 : (some false) = some r:=by rw [if_neg (show ¬ (false = true) by decide)] at H;exact H
    clear H
    have H:=H1
    clear H1
    obtain rfl:=Option.some.inj H
    go_enter Try.func28,Try.ntmps28
    go_wp2_with (first | ((with_reducible refine gate_dst (N:=2) rfl ?_);refine box_event ?hg (N:=2) ?hd (cs:=#[.slice A0_0 l0_0.length c0_0,.slice A0_1 l0_1.length c0_1,.slice A0_2 l0_2.length c0_2]) (t:=55) ?hr ?_;(case hd => rfl);(case hg => rfl);(case hr => first | (go_simp;done) | (go_simp;rfl));intro gb342 hg w20 hbox hb;have n0_:=Up.BB HB hb;have n1_:=Aside0.mk (hbox);have n2_:=Aside0.mk ((by rw [hg];exact (below_size (Up.Bup HB)) : w.heap.size ≤ gb342));have n3_:=Aside0.mk ((by rw [hg];exact (below_size (Up.Bup HB)) : w.heap.size ≤ gb342));clear HB;have HB:=n0_;have BK342:=n1_;have GW342:=n2_;have GE342:=n3_;clear n0_ n1_ n2_ n3_;clear hb hbox hg) | ((with_reducible refine gate_dst (N:=3) rfl ?_);refine box_event ?hg (N:=3) ?hd (cs:=#[.slice A1_0 l1_0.length c1_0,.slice A1_1 l1_1.length c1_1,.slice A1_2 l1_2.length c1_2]) (t:=55) ?hr ?_;(case hd => rfl);(case hg => rfl);(case hr => first | (go_simp;done) | (go_simp;rfl));intro gb343 hg w21 hbox hb;have n0_:=Up.KB BK342 hb;have n1_:=Aside0.mk (below_step (by repeat (first | (with_reducible first | exact HB.out | apply below_alloc | apply pw_below_drewN | apply below_drew1 | refine below_set ?_ GE342.out) | exact HB.out)) hb);have n2_:=Aside0.mk (hbox);have n3_:=Aside0.mk ((by rw [hg];exact (below_size (by repeat (first | (with_reducible first | exact HB.out | apply below_alloc | apply pw_below_drewN | apply below_drew1 | refine below_set ?_ GE342.out) | exact HB.out))) : w.heap.size ≤ gb343));have n4_:=Aside0.mk ((by rw [hg];exact (below_size (by repeat (first | (with_reducible first | exact HB.out | apply below_alloc | apply pw_below_drewN | apply below_drew1 | refine below_set ?_ GE342.out) | exact HB.out))) : w.heap.size ≤ gb343));have n5_:=Aside0.mk ((by rw [hg];exact Nat.ne_of_lt (blk_lt (g:=gb342) (o:=.cells #[.slice A0_0 l0_0.length c0_0,.slice A0_1 l0_1.length c0_1,.slice A0_2 l0_2.length c0_2] 55 (0,0)) (Up.Kup BK342)) : gb342 ≠ gb343));have n6_:=Aside0.mk ((by rw [hg];exact Nat.ne_of_gt (blk_lt (g:=gb342) (o:=.cells #[.slice A0_0 l0_0.length c0_0,.slice A0_1 l0_1.length c0_1,.slice A0_2 l0_2.length c0_2] 55 (0,0)) (Up.Kup BK342)) : gb343 ≠ gb342));clear BK342;clear HB;have BK342:=n0_;have HB:=n1_;have BK343:=n2_;have GW343:=n3_;have GE343:=n4_;have NB342_343:=n5_;have NB343_342:=n6_;clear n0_ n1_ n2_ n3_ n4_ n5_ n6_;clear hb hbox hg;have hnb22:=NB342_343.out;have hnc22:=NB343_342.out;have hcz23_0 : w21.cell? ⟨gb342,0,none⟩ = some (.slice A0_0 l0_0.length c0_0):=(blk_cell BK342.out 0).trans rfl;have hcz23_1 : w21.cell? ⟨gb342,1,none⟩ = some (.slice A0_1 l0_1.length c0_1):=(blk_cell BK342.out 1).trans rfl;have hcz23_2 : w21.cell? ⟨gb342,2,none⟩ = some (.slice A0_2 l0_2.length c0_2):=(blk_cell BK342.out 2).trans rfl;have hfz23_0:=blk_frozen BK342.out 0;have hfz23_1:=blk_frozen BK342.out 1;have hfz23_2:=blk_frozen BK342.out 2;have hcz24_0 : w21.cell? ⟨gb343,0,none⟩ = some (.slice A1_0 l1_0.length c1_0):=(blk_cell BK343.out 0).trans rfl;have hcz24_1 : w21.cell? ⟨gb343,1,none⟩ = some (.slice A1_1 l1_1.length c1_1):=(blk_cell BK343.out 1).trans rfl;have hcz24_2 : w21.cell? ⟨gb343,2,none⟩ = some (.slice A1_2 l1_2.length c1_2):=(blk_cell BK343.out 2).trans rfl;have hfz24_0:=blk_frozen BK343.out 0;have hfz24_1:=blk_frozen BK343.out 1;have hfz24_2:=blk_frozen BK343.out 2) | ((with_reducible refine gate_callee (f:=31) rfl ?_);refine goesL_ (some 9) rfl rfl Try.func31 (by kernel_rfl) rfl #[.slice A0_0 l0_0.length c0_0,.slice A1_0 l1_0.length c1_0] rfl (by (try simp only [List.map_toArray,List.map_cons,List.map_nil]);first | done | rfl | (simp only [List.length_drop,List.length_take];rfl)) ?_;(with_reducible refine (laws_eqRecordS.calls k _ _ l0_0 _ _ l1_0 true _ ?side1 ?side2 ?side3 ?side4 A3.out).mono ?_);(case side1 => repeat (first | exact (Kd.C_below HR0_0.out HB.out) | (with_reducible refine Kd.C_alloc ?_ _) | (with_reducible refine Kd.C_drewN ?_ _) | (with_reducible refine Kd.C_drew ?_)));(case side2 => exact HC0_0.out);(case side3 => repeat (first | exact (Kd.C_below HR1_0.out HB.out) | (with_reducible refine Kd.C_alloc ?_ _) | (with_reducible refine Kd.C_drewN ?_ _) | (with_reducible refine Kd.C_drew ?_)));(case side4 => exact HC1_0.out);rintro e w25 ⟨rfl,hb⟩;refine ⟨_,rfl,?_⟩;have n0_:=Up.KB BK342 hb;have n1_:=Up.KB BK343 hb;have n2_:=Aside0.mk (below_step (by repeat (first | (with_reducible first | exact HB.out | apply below_alloc | apply pw_below_drewN | apply below_drew1 | refine below_set ?_ GE342.out | refine below_set ?_ GE343.out) | exact HB.out)) hb);clear BK342;clear BK343;clear HB;have BK342:=n0_;have BK343:=n1_;have HB:=n2_;clear n0_ n1_ n2_;(try clear hb);(try clear hb2);(try clear hk);(try clear hi);have hcz26_0 : w25.cell? ⟨gb342,0,none⟩ = some (.slice A0_0 l0_0.length c0_0):=(blk_cell BK342.out 0).trans rfl;have hcz26_1 : w25.cell? ⟨gb342,1,none⟩ = some (.slice A0_1 l0_1.length c0_1):=(blk_cell BK342.out 1).trans rfl;have hcz26_2 : w25.cell? ⟨gb342,2,none⟩ = some (.slice A0_2 l0_2.length c0_2):=(blk_cell BK342.out 2).trans rfl;have hfz26_0:=blk_frozen BK342.out 0;have hfz26_1:=blk_frozen BK342.out 1;have hfz26_2:=blk_frozen BK342.out 2;have hcz27_0 : w25.cell? ⟨gb343,0,none⟩ = some (.slice A1_0 l1_0.length c1_0):=(blk_cell BK343.out 0).trans rfl;have hcz27_1 : w25.cell? ⟨gb343,1,none⟩ = some (.slice A1_1 l1_1.length c1_1):=(blk_cell BK343.out 1).trans rfl;have hcz27_2 : w25.cell? ⟨gb343,2,none⟩ = some (.slice A1_2 l1_2.length c1_2):=(blk_cell BK343.out 2).trans rfl;have hfz27_0:=blk_frozen BK343.out 0;have hfz27_1:=blk_frozen BK343.out 1;have hfz27_2:=blk_frozen BK343.out 2) | ((with_reducible refine gate_callee (f:=53) rfl ?_);refine goesL_ (some 15) rfl rfl Try.func53 (by kernel_rfl) rfl #[.slice A0_1 l0_1.length c0_1,.slice A1_1 l1_1.length c1_1] rfl (by (try simp only [List.map_toArray,List.map_cons,List.map_nil]);first | done | rfl | (simp only [List.length_drop,List.length_take];rfl)) ?_;(with_reducible refine (laws_eqFuncS.calls k _ _ l0_1 _ _ l1_1 true _ ?side1 ?side2 ?side3 ?side4 A5.out).mono ?_);(case side1 => repeat (first | exact (Kd.C_below HR0_1.out HB.out) | (with_reducible refine Kd.C_alloc ?_ _) | (with_reducible refine Kd.C_drewN ?_ _) | (with_reducible refine Kd.C_drew ?_)));(case side2 => exact HC0_1.out);(case side3 => repeat (first | exact (Kd.C_below HR1_1.out HB.out) | (with_reducible refine Kd.C_alloc ?_ _) | (with_reducible refine Kd.C_drewN ?_ _) | (with_reducible refine Kd.C_drew ?_)));(case side4 => exact HC1_1.out);rintro e w28 ⟨rfl,hb⟩;refine ⟨_,rfl,?_⟩;have n0_:=Up.KB BK342 hb;have n1_:=Up.KB BK343 hb;have n2_:=Aside0.mk (below_step (by repeat (first | (with_reducible first | exact HB.out | apply below_alloc | apply pw_below_drewN | apply below_drew1 | refine below_set ?_ GE342.out | refine below_set ?_ GE343.out) | exact HB.out)) hb);clear BK342;clear BK343;clear HB;have BK342:=n0_;have BK343:=n1_;have HB:=n2_;clear n0_ n1_ n2_;(try clear hb);(try clear hb2);(try clear hk);(try clear hi);have hcz29_0 : w28.cell? ⟨gb342,0,none⟩ = some (.slice A0_0 l0_0.length c0_0):=(blk_cell BK342.out 0).trans rfl;have hcz29_1 : w28.cell? ⟨gb342,1,none⟩ = some (.slice A0_1 l0_1.length c0_1):=(blk_cell BK342.out 1).trans rfl;have hcz29_2 : w28.cell? ⟨gb342,2,none⟩ = some (.slice A0_2 l0_2.length c0_2):=(blk_cell BK342.out 2).trans rfl;have hfz29_0:=blk_frozen BK342.out 0;have hfz29_1:=blk_frozen BK342.out 1;have hfz29_2:=blk_frozen BK342.out 2;have hcz30_0 : w28.cell? ⟨gb343,0,none⟩ = some (.slice A1_0 l1_0.length c1_0):=(blk_cell BK343.out 0).trans rfl;have hcz30_1 : w28.cell? ⟨gb343,1,none⟩ = some (.slice A1_1 l1_1.length c1_1):=(blk_cell BK343.out 1).trans rfl;have hcz30_2 : w28.cell? ⟨gb343,2,none⟩ = some (.slice A1_2 l1_2.length c1_2):=(blk_cell BK343.out 2).trans rfl;have hfz30_0:=blk_frozen BK343.out 0;have hfz30_1:=blk_frozen BK343.out 1;have hfz30_2:=blk_frozen BK343.out 2) | ((with_reducible refine gate_callee (f:=39) rfl ?_);refine goesL_ (some 21) rfl rfl Try.func39 (by kernel_rfl) rfl #[.slice A0_2 l0_2.length c0_2,.slice A1_2 l1_2.length c1_2] rfl (by (try simp only [List.map_toArray,List.map_cons,List.map_nil]);first | done | rfl | (simp only [List.length_drop,List.length_take];rfl)) ?_;(with_reducible refine (laws_eqIntS.calls k _ _ l0_2 _ _ l1_2 false _ ?side1 ?side2 ?side3 ?side4 A7.out).mono ?_);(case side1 => repeat (first | exact (Kd.C_below HR0_2.out HB.out) | (with_reducible refine Kd.C_alloc ?_ _) | (with_reducible refine Kd.C_drewN ?_ _) | (with_reducible refine Kd.C_drew ?_)));(case side2 => exact HC0_2.out);(case side3 => repeat (first | exact (Kd.C_below HR1_2.out HB.out) | (with_reducible refine Kd.C_alloc ?_ _) | (with_reducible refine Kd.C_drewN ?_ _) | (with_reducible refine Kd.C_drew ?_)));(case side4 => exact HC1_2.out);rintro e w' ⟨rfl,⟨nd,rfl⟩⟩;refine ⟨_,rfl,?_⟩))
    go_ret
    exact ⟨by first | rfl | (simp [errW_none,errW_some] <;> rfl) | (simp [*,errW_none,errW_some] <;> rfl),by repeat (first | (with_reducible first | exact HB.out | apply below_alloc | apply pw_below_drewN | apply below_drew1 | refine below_set ?_ GE342.out | refine below_set ?_ GE343.out) | exact HB.out)⟩
  ·replace c6:=Bool.eq_false_iff.mpr c6
   subst c6
   have H1 : (some false) = some r:=by rw [if_neg (show ¬ (false = true) by decide)] at H;exact H
   clear H
   have H:=H1
   clear H1
   obtain rfl:=Option.some.inj H
   go_enter Try.func28,Try.ntmps28
   go_wp2_with (first | ((with_reducible refine gate_dst (N:=2) rfl ?_);refine box_event ?hg (N:=2) ?hd (cs:=#[.slice A0_0 l0_0.length c0_0,.slice A0_1 l0_1.length c0_1,.slice A0_2 l0_2.length c0_2]) (t:=55) ?hr ?_;(case hd => rfl);(case hg => rfl);(case hr => first | (go_simp;done) | (go_simp;rfl));intro gb342 hg w31 hbox hb;have n0_:=Up.BB HB hb;have n1_:=Aside0.mk (hbox);have n2_:=Aside0.mk ((by rw [hg];exact (below_size (Up.Bup HB)) : w.heap.size ≤ gb342));have n3_:=Aside0.mk ((by rw [hg];exact (below_size (Up.Bup HB)) : w.heap.size ≤ gb342));clear HB;have HB:=n0_;have BK342:=n1_;have GW342:=n2_;have GE342:=n3_;clear n0_ n1_ n2_ n3_;clear hb hbox hg) | ((with_reducible refine gate_dst (N:=3) rfl ?_);refine box_event ?hg (N:=3) ?hd (cs:=#[.slice A1_0 l1_0.length c1_0,.slice A1_1 l1_1.length c1_1,.slice A1_2 l1_2.length c1_2]) (t:=55) ?hr ?_;(case hd => rfl);(case hg => rfl);(case hr => first | (go_simp;done) | (go_simp;rfl));intro gb343 hg w32 hbox hb;have n0_:=Up.KB BK342 hb;have n1_:=Aside0.mk (below_step (by repeat (first | (with_reducible first | exact HB.out | apply below_alloc | apply pw_below_drewN | apply below_drew1 | refine below_set ?_ GE342.out) | exact HB.out)) hb);have n2_:=Aside0.mk (hbox);have n3_:=Aside0.mk ((by rw [hg];exact (below_size (by repeat (first | (with_reducible first | exact HB.out | apply below_alloc | apply pw_below_drewN | apply below_drew1 | refine below_set ?_ GE342.out) | exact HB.out))) : w.heap.size ≤ gb343));have n4_:=Aside0.mk ((by rw [hg];exact (below_size (by repeat (first | (with_reducible first | exact HB.out | apply below_alloc | apply pw_below_drewN | apply below_drew1 | refine below_set ?_ GE342.out) | exact HB.out))) : w.heap.size ≤ gb343));have n5_:=Aside0.mk ((by rw [hg];exact Nat.ne_of_lt (blk_lt (g:=gb342) (o:=.cells #[.slice A0_0 l0_0.length c0_0,.slice A0_1 l0_1.length c0_1,.slice A0_2 l0_2.length c0_2] 55 (0,0)) (Up.Kup BK342)) : gb342 ≠ gb343));have n6_:=Aside0.mk ((by rw [hg];exact Nat.ne_of_gt (blk_lt (g:=gb342) (o:=.cells #[.slice A0_0 l0_0.length c0_0,.slice A0_1 l0_1.length c0_1,.slice A0_2 l0_2.length c0_2] 55 (0,0)) (Up.Kup BK342)) : gb343 ≠ gb342));clear BK342;clear HB;have BK342:=n0_;have HB:=n1_;have BK343:=n2_;have GW343:=n3_;have GE343:=n4_;have NB342_343:=n5_;have NB343_342:=n6_;clear n0_ n1_ n2_ n3_ n4_ n5_ n6_;clear hb hbox hg;have hnb33:=NB342_343.out;have hnc33:=NB343_342.out;have hcz34_0 : w32.cell? ⟨gb342,0,none⟩ = some (.slice A0_0 l0_0.length c0_0):=(blk_cell BK342.out 0).trans rfl;have hcz34_1 : w32.cell? ⟨gb342,1,none⟩ = some (.slice A0_1 l0_1.length c0_1):=(blk_cell BK342.out 1).trans rfl;have hcz34_2 : w32.cell? ⟨gb342,2,none⟩ = some (.slice A0_2 l0_2.length c0_2):=(blk_cell BK342.out 2).trans rfl;have hfz34_0:=blk_frozen BK342.out 0;have hfz34_1:=blk_frozen BK342.out 1;have hfz34_2:=blk_frozen BK342.out 2;have hcz35_0 : w32.cell? ⟨gb343,0,none⟩ = some (.slice A1_0 l1_0.length c1_0):=(blk_cell BK343.out 0).trans rfl;have hcz35_1 : w32.cell? ⟨gb343,1,none⟩ = some (.slice A1_1 l1_1.length c1_1):=(blk_cell BK343.out 1).trans rfl;have hcz35_2 : w32.cell? ⟨gb343,2,none⟩ = some (.slice A1_2 l1_2.length c1_2):=(blk_cell BK343.out 2).trans rfl;have hfz35_0:=blk_frozen BK343.out 0;have hfz35_1:=blk_frozen BK343.out 1;have hfz35_2:=blk_frozen BK343.out 2) | ((with_reducible refine gate_callee (f:=31) rfl ?_);refine goesL_ (some 9) rfl rfl Try.func31 (by kernel_rfl) rfl #[.slice A0_0 l0_0.length c0_0,.slice A1_0 l1_0.length c1_0] rfl (by (try simp only [List.map_toArray,List.map_cons,List.map_nil]);first | done | rfl | (simp only [List.length_drop,List.length_take];rfl)) ?_;(with_reducible refine (laws_eqRecordS.calls k _ _ l0_0 _ _ l1_0 true _ ?side1 ?side2 ?side3 ?side4 A3.out).mono ?_);(case side1 => repeat (first | exact (Kd.C_below HR0_0.out HB.out) | (with_reducible refine Kd.C_alloc ?_ _) | (with_reducible refine Kd.C_drewN ?_ _) | (with_reducible refine Kd.C_drew ?_)));(case side2 => exact HC0_0.out);(case side3 => repeat (first | exact (Kd.C_below HR1_0.out HB.out) | (with_reducible refine Kd.C_alloc ?_ _) | (with_reducible refine Kd.C_drewN ?_ _) | (with_reducible refine Kd.C_drew ?_)));(case side4 => exact HC1_0.out);rintro e w36 ⟨rfl,hb⟩;refine ⟨_,rfl,?_⟩;have n0_:=Up.KB BK342 hb;have n1_:=Up.KB BK343 hb;have n2_:=Aside0.mk (below_step (by repeat (first | (with_reducible first | exact HB.out | apply below_alloc | apply pw_below_drewN | apply below_drew1 | refine below_set ?_ GE342.out | refine below_set ?_ GE343.out) | exact HB.out)) hb);clear BK342;clear BK343;clear HB;have BK342:=n0_;have BK343:=n1_;have HB:=n2_;clear n0_ n1_ n2_;(try clear hb);(try clear hb2);(try clear hk);(try clear hi);have hcz37_0 : w36.cell? ⟨gb342,0,none⟩ = some (.slice A0_0 l0_0.length c0_0):=(blk_cell BK342.out 0).trans rfl;have hcz37_1 : w36.cell? ⟨gb342,1,none⟩ = some (.slice A0_1 l0_1.length c0_1):=(blk_cell BK342.out 1).trans rfl;have hcz37_2 : w36.cell? ⟨gb342,2,none⟩ = some (.slice A0_2 l0_2.length c0_2):=(blk_cell BK342.out 2).trans rfl;have hfz37_0:=blk_frozen BK342.out 0;have hfz37_1:=blk_frozen BK342.out 1;have hfz37_2:=blk_frozen BK342.out 2;have hcz38_0 : w36.cell? ⟨gb343,0,none⟩ = some (.slice A1_0 l1_0.length c1_0):=(blk_cell BK343.out 0).trans rfl;have hcz38_1 : w36.cell? ⟨gb343,1,none⟩ = some (.slice A1_1 l1_1.length c1_1):=(blk_cell BK343.out 1).trans rfl;have hcz38_2 : w36.cell? ⟨gb343,2,none⟩ = some (.slice A1_2 l1_2.length c1_2):=(blk_cell BK343.out 2).trans rfl;have hfz38_0:=blk_frozen BK343.out 0;have hfz38_1:=blk_frozen BK343.out 1;have hfz38_2:=blk_frozen BK343.out 2) | ((with_reducible refine gate_callee (f:=53) rfl ?_);refine goesL_ (some 15) rfl rfl Try.func53 (by kernel_rfl) rfl #[.slice A0_1 l0_1.length c0_1,.slice A1_1 l1_1.length c1_1] rfl (by (try simp only [List.map_toArray,List.map_cons,List.map_nil]);first | done | rfl | (simp only [List.length_drop,List.length_take];rfl)) ?_;(with_reducible refine (laws_eqFuncS.calls k _ _ l0_1 _ _ l1_1 false _ ?side1 ?side2 ?side3 ?side4 A5.out).mono ?_);(case side1 => repeat (first | exact (Kd.C_below HR0_1.out HB.out) | (with_reducible refine Kd.C_alloc ?_ _) | (with_reducible refine Kd.C_drewN ?_ _) | (with_reducible refine Kd.C_drew ?_)));(case side2 => exact HC0_1.out);(case side3 => repeat (first | exact (Kd.C_below HR1_1.out HB.out) | (with_reducible refine Kd.C_alloc ?_ _) | (with_reducible refine Kd.C_drewN ?_ _) | (with_reducible refine Kd.C_drew ?_)));(case side4 => exact HC1_1.out);rintro e w39 ⟨rfl,hb⟩;refine ⟨_,rfl,?_⟩;have n0_:=Up.KB BK342 hb;have n1_:=Up.KB BK343 hb;have n2_:=Aside0.mk (below_step (by repeat (first | (with_reducible first | exact HB.out | apply below_alloc | apply pw_below_drewN | apply below_drew1 | refine below_set ?_ GE342.out | refine below_set ?_ GE343.out) | exact HB.out)) hb);clear BK342;clear BK343;clear HB;have BK342:=n0_;have BK343:=n1_;have HB:=n2_;clear n0_ n1_ n2_;(try clear hb);(try clear hb2);(try clear hk);(try clear hi)))
   go_ret
   exact ⟨by first | rfl | (simp [errW_none,errW_some] <;> rfl) | (simp [*,errW_none,errW_some] <;> rfl),by repeat (first | (with_reducible first | exact HB.out | apply below_alloc | apply pw_below_drewN | apply below_drew1 | refine below_set ?_ GE342.out | refine below_set ?_ GE343.out) | exact HB.out)⟩
 ·replace c4:=Bool.eq_false_iff.mpr c4
  subst c4
  have H1 : (some false) = some r:=by rw [if_neg (show ¬ (false = true) by decide)] at H;exact H
  clear H
  have H:=H1
  clear H1
  obtain rfl:=Option.some.inj H
  go_enter Try.func28,Try.ntmps28
  go_wp2_with (first | ((with_reducible refine gate_dst (N:=2) rfl ?_);refine box_event ?hg (N:=2) ?hd (cs:=#[.slice A0_0 l0_0.length c0_0,.slice A0_1 l0_1.length c0_1,.slice A0_2 l0_2.length c0_2]) (t:=55) ?hr ?_;(case hd => rfl);(case hg => rfl);(case hr => first | (go_simp;done) | (go_simp;rfl));intro gb342 hg w40 hbox hb;have n0_:=Up.BB HB hb;have n1_:=Aside0.mk (hbox);have n2_:=Aside0.mk ((by rw [hg];exact (below_size (Up.Bup HB)) : w.heap.size ≤ gb342));have n3_:=Aside0.mk ((by rw [hg];exact (below_size (Up.Bup HB)) : w.heap.size ≤ gb342));clear HB;have HB:=n0_;have BK342:=n1_;have GW342:=n2_;have GE342:=n3_;clear n0_ n1_ n2_ n3_;clear hb hbox hg) | ((with_reducible refine gate_dst (N:=3) rfl ?_);refine box_event ?hg (N:=3) ?hd (cs:=#[.slice A1_0 l1_0.length c1_0,.slice A1_1 l1_1.length c1_1,.slice A1_2 l1_2.length c1_2]) (t:=55) ?hr ?_;(case hd => rfl);(case hg => rfl);(case hr => first | (go_simp;done) | (go_simp;rfl));intro gb343 hg w41 hbox hb;have n0_:=Up.KB BK342 hb;have n1_:=Aside0.mk (below_step (by repeat (first | (with_reducible first | exact HB.out | apply below_alloc | apply pw_below_drewN | apply below_drew1 | refine below_set ?_ GE342.out) | exact HB.out)) hb);have n2_:=Aside0.mk (hbox);have n3_:=Aside0.mk ((by rw [hg];exact (below_size (by repeat (first | (with_reducible first | exact HB.out | apply below_alloc | apply pw_below_drewN | apply below_drew1 | refine below_set ?_ GE342.out) | exact HB.out))) : w.heap.size ≤ gb343));have n4_:=Aside0.mk ((by rw [hg];exact (below_size (by repeat (first | (with_reducible first | exact HB.out | apply below_alloc | apply pw_below_drewN | apply below_drew1 | refine below_set ?_ GE342.out) | exact HB.out))) : w.heap.size ≤ gb343));have n5_:=Aside0.mk ((by rw [hg];exact Nat.ne_of_lt (blk_lt (g:=gb342) (o:=.cells #[.slice A0_0 l0_0.length c0_0,.slice A0_1 l0_1.length c0_1,.slice A0_2 l0_2.length c0_2] 55 (0,0)) (Up.Kup BK342)) : gb342 ≠ gb343));have n6_:=Aside0.mk ((by rw [hg];exact Nat.ne_of_gt (blk_lt (g:=gb342) (o:=.cells #[.slice A0_0 l0_0.length c0_0,.slice A0_1 l0_1.length c0_1,.slice A0_2 l0_2.length c0_2] 55 (0,0)) (Up.Kup BK342)) : gb343 ≠ gb342));clear BK342;clear HB;have BK342:=n0_;have HB:=n1_;have BK343:=n2_;have GW343:=n3_;have GE343:=n4_;have NB342_343:=n5_;have NB343_342:=n6_;clear n0_ n1_ n2_ n3_ n4_ n5_ n6_;clear hb hbox hg;have hnb42:=NB342_343.out;have hnc42:=NB343_342.out;have hcz43_0 : w41.cell? ⟨gb342,0,none⟩ = some (.slice A0_0 l0_0.length c0_0):=(blk_cell BK342.out 0).trans rfl;have hcz43_1 : w41.cell? ⟨gb342,1,none⟩ = some (.slice A0_1 l0_1.length c0_1):=(blk_cell BK342.out 1).trans rfl;have hcz43_2 : w41.cell? ⟨gb342,2,none⟩ = some (.slice A0_2 l0_2.length c0_2):=(blk_cell BK342.out 2).trans rfl;have hfz43_0:=blk_frozen BK342.out 0;have hfz43_1:=blk_frozen BK342.out 1;have hfz43_2:=blk_frozen BK342.out 2;have hcz44_0 : w41.cell? ⟨gb343,0,none⟩ = some (.slice A1_0 l1_0.length c1_0):=(blk_cell BK343.out 0).trans rfl;have hcz44_1 : w41.cell? ⟨gb343,1,none⟩ = some (.slice A1_1 l1_1.length c1_1):=(blk_cell BK343.out 1).trans rfl;have hcz44_2 : w41.cell? ⟨gb343,2,none⟩ = some (.slice A1_2 l1_2.length c1_2):=(blk_cell BK343.out 2).trans rfl;have hfz44_0:=blk_frozen BK343.out 0;have hfz44_1:=blk_frozen BK343.out 1;have hfz44_2:=blk_frozen BK343.out 2) | ((with_reducible refine gate_callee (f:=31) rfl ?_);refine goesL_ (some 9) rfl rfl Try.func31 (by kernel_rfl) rfl #[.slice A0_0 l0_0.length c0_0,.slice A1_0 l1_0.length c1_0] rfl (by (try simp only [List.map_toArray,List.map_cons,List.map_nil]);first | done | rfl | (simp only [List.length_drop,List.length_take];rfl)) ?_;(with_reducible refine (laws_eqRecordS.calls k _ _ l0_0 _ _ l1_0 false _ ?side1 ?side2 ?side3 ?side4 A3.out).mono ?_);(case side1 => repeat (first | exact (Kd.C_below HR0_0.out HB.out) | (with_reducible refine Kd.C_alloc ?_ _) | (with_reducible refine Kd.C_drewN ?_ _) | (with_reducible refine Kd.C_drew ?_)));(case side2 => exact HC0_0.out);(case side3 => repeat (first | exact (Kd.C_below HR1_0.out HB.out) | (with_reducible refine Kd.C_alloc ?_ _) | (with_reducible refine Kd.C_drewN ?_ _) | (with_reducible refine Kd.C_drew ?_)));(case side4 => exact HC1_0.out);rintro e w45 ⟨rfl,hb⟩;refine ⟨_,rfl,?_⟩;have n0_:=Up.KB BK342 hb;have n1_:=Up.KB BK343 hb;have n2_:=Aside0.mk (below_step (by repeat (first | (with_reducible first | exact HB.out | apply below_alloc | apply pw_below_drewN | apply below_drew1 | refine below_set ?_ GE342.out | refine below_set ?_ GE343.out) | exact HB.out)) hb);clear BK342;clear BK343;clear HB;have BK342:=n0_;have BK343:=n1_;have HB:=n2_;clear n0_ n1_ n2_;(try clear hb);(try clear hb2);(try clear hk);(try clear hi)))
  go_ret
  exact ⟨by first | rfl | (simp [errW_none,errW_some] <;> rfl) | (simp [*,errW_none,errW_some] <;> rfl),by repeat (first | (with_reducible first | exact HB.out | apply below_alloc | apply pw_below_drewN | apply below_drew1 | refine below_set ?_ GE342.out | refine below_set ?_ GE343.out) | exact HB.out)⟩

end Go.Proofs.Ytcdamcfklehedaa.OFnExactFuncSeen
