-- Laid by a program of this session (wip/myprint.py): the kit's print of the functions, contracts of our own among them.
import Derived.Test.YtfkhjnmgaadomaaDoorOFnInsTextx0
import Derived.Test.YtfkhjnmgaadomaaDoorOFnInsTextx1
import Derived.Test.YtfkhjnmgaadomaaDoorOFnInsTextx2
import Derived.Test.YtfkhjnmgaadomaaDoorOFnInsTextx3
import Derived.Test.YtfkhjnmgaadomaaDoorOFnInsTextx4
namespace Go.Proofs.YtfkhjnmgaadomaaDoor.OFnInsText
open Go.RowKit Go.Proofs.YtfkhjnmgaadomaaDoorW.PrintWords Go.Proofs.YtfkhjnmgaadomaaDoorW.PrintLast Go.Proofs.YtfkhjnmgaadomaaDoorW.PrintMore
attribute [local go_sem] max2_int min2_int max_two min_two max_three min_three max_four min_four   -- for this text's walks alone
set_option linter.unusedVariables false
set_option linter.unusedSimpArgs false

attribute [local go_sem high] eqA26
/-! ### spec_l6Rd_pick: function 42 -/
def spec_l6Rd_pick.j0 : Nat → Int → Bool → List Int → Int → Option (Int × Int)
 | 0,_,_,_,_ => none
 | k + 1,x1,x24,x1000,x1001 => if x24 = true then (some (0,x1001)) else (if (wrap64 (x1001 - 1)) < (x1000.length : Int) then (if 0 ≤ (wrap64 (x1001 - 1)) then (if x1 = 0 then (none) else (some (Int.tmod (wrap64 (rd x1000 (wrap64 (x1001 - 1)))) x1,x1001))) else (none)) else (if (x1000.length : Int) = 0 then (none) else (if 0 ≤ (Int.tmod (wrap64 (x1001 - 1)) (x1000.length : Int)) then (if (Int.tmod (wrap64 (x1001 - 1)) (x1000.length : Int)) < (x1000.length : Int) then (if 0 ≤ (Int.tmod (wrap64 ((wrap64 ((wrap64 (x1001 - 1)) * 7)) + 3)) (x1000.length : Int)) then (if (Int.tmod (wrap64 ((wrap64 ((wrap64 (x1001 - 1)) * 7)) + 3)) (x1000.length : Int)) < (x1000.length : Int) then (if x1 = 0 then (none) else (some (Int.tmod (Go.bits .xor .i64 (wrap64 ((wrap64 ((wrap64 ((wrap64 ((wrap64 (rd x1000 (Int.tmod (wrap64 (x1001 - 1)) (x1000.length : Int)))) * 131)) + (wrap64 ((wrap64 (rd x1000 (Int.tmod (wrap64 ((wrap64 ((wrap64 (x1001 - 1)) * 7)) + 3)) (x1000.length : Int)))) * 1117)))) + (wrap64 ((wrap64 (x1001 - 1)) * 29)))) + (wrap64 ((wrap64 (Int.tdiv (wrap64 (x1001 - 1)) (x1000.length : Int))) * 53)))) (wrap64 (Int.tdiv (wrap64 ((wrap64 ((wrap64 ((wrap64 ((wrap64 (rd x1000 (Int.tmod (wrap64 (x1001 - 1)) (x1000.length : Int)))) * 131)) + (wrap64 ((wrap64 (rd x1000 (Int.tmod (wrap64 ((wrap64 ((wrap64 (x1001 - 1)) * 7)) + 3)) (x1000.length : Int)))) * 1117)))) + (wrap64 ((wrap64 (x1001 - 1)) * 29)))) + (wrap64 ((wrap64 (Int.tdiv (wrap64 (x1001 - 1)) (x1000.length : Int))) * 53)))) 64))) x1,x1001))) else (none)) else (none)) else (none)) else (none))))
def spec_l6Rd_pick.f (k : Nat) (s0_0 : List Int) (s0_1 : Int) (a1 : Int) : Option (Int × Int):=if a1 < 1 then (spec_l6Rd_pick.j0 k a1 true s0_0 (wrap64 (s0_1 + 1))) else (spec_l6Rd_pick.j0 k a1 ((s0_0.length : Int) == 0) s0_0 (wrap64 (s0_1 + 1)))
theorem spec_l6Rd_pick.mono_l : ∀ k,(∀ y0 y1 y2 y3,LeO (spec_l6Rd_pick.j0 k y0 y1 y2 y3) (spec_l6Rd_pick.j0 (k + 1) y0 y1 y2 y3))
 | 0 => fun _ _ _ _ r h => by simp [spec_l6Rd_pick.j0] at h
 | k + 1 => by
  have ih0:=spec_l6Rd_pick.mono_l k
  ·intro y0 y1 y2 y3
   unfold spec_l6Rd_pick.j0
   repeat' first
   | (with_reducible exact ih0 _ _ _ _)
   | (with_reducible exact LeO.refl _)
   | (with_reducible exact LeO.none _)
   | (with_reducible refine LeO.ite ?_ ?_)
   | (with_reducible refine LeO.bind ?_ (fun _ => ?_))
   | exact ih0 _ _ _ _
   | exact LeO.none _
   | refine LeO.ite ?_ ?_
   | refine LeO.bind ?_ (fun _ => ?_)
theorem spec_l6Rd_pick.mono : ∀ a0 a1 a2 k,LeO (spec_l6Rd_pick.f k a0 a1 a2) (spec_l6Rd_pick.f (k + 1) a0 a1 a2):=by
 intro a0 a1 a2 k
 have ih0:=spec_l6Rd_pick.mono_l k
 unfold spec_l6Rd_pick.f
 repeat' first
   | (with_reducible exact ih0 _ _ _ _)
   | (with_reducible exact LeO.refl _)
   | (with_reducible exact LeO.none _)
   | (with_reducible refine LeO.ite ?_ ?_)
   | (with_reducible refine LeO.bind ?_ (fun _ => ?_))
   | exact ih0 _ _ _ _
   | exact LeO.none _
   | refine LeO.ite ?_ ?_
   | refine LeO.bind ?_ (fun _ => ?_)
set_option maxHeartbeats 8000000 in
set_option maxRecDepth 100000 in
theorem spec_l6Rd_pick.calls (k : Nat) (g : Nat) (s0_0 : List Int) (s0_1 : Int) (a1 : Int) (r1 : Int) (r2 : Int) (w0 w : World) (hI : IsS70 w0 w g s0_0 s0_1) (hB : Below w0.heap.size w0 w) (h : spec_l6Rd_pick.f k s0_0 s0_1 a1 = some (r1,r2)) :
  Calls Tryd.prog 42 #[.pointer (some ⟨g,0,none⟩),.int .i64 a1] w fun e w' => e = .returned (.int .i64 r1) ∧ IsS70 w0 w' g s0_0 r2 ∧ Below w0.heap.size w0 w' ∧ KeepBut w w' g none:=by
 have HI0:=Aside0.mk hI
 have HK:=Aside0.mk (KeepBut.refl w g none)
 have HL:=Aside0.mk hB.size
 clear hI
 have HW0:=Aside0.mk hB.size
 have HB:=Aside0.mk hB
 clear hB
 have H : (if a1 < 1 then (spec_l6Rd_pick.j0 k a1 true s0_0 (wrap64 (s0_1 + 1))) else (spec_l6Rd_pick.j0 k a1 ((s0_0.length : Int) == 0) s0_0 (wrap64 (s0_1 + 1)))) = some (r1,r2):=h
 clear h
 have HC3:=Aside0.mk H
 clear H
 obtain ⟨ASz4_0,cSz4_0,HGz4,hgz4,HSz4_0⟩:=HI0.out
 have hcz4_0:=cellS70_0 HGz4
 have hcz4_1:=cellS70_1 HGz4
 have hfz4_1:=blk_frozen HGz4 1
 clear HGz4 hgz4
 go_enter Tryd.func42,Tryd.ntmps42
 go_upto_region 2 with (fail)
 repeat (go_quiet (fail);go_upto_region 2 with (fail))
 go_cut [24] (fun v24 wc => ∃ (kq : Nat) (x24_2 : Bool),v24 = .bool x24_2 ∧ Aside0 (spec_l6Rd_pick.j0 kq a1 x24_2 s0_0 (wrap64 (s0_1 + 1)) = some (r1,r2)) ∧ Aside0 (kq ≤ k) ∧ Aside0 (IsS70 w0 wc g s0_0 (wrap64 (s0_1 + 1))) ∧ Aside0 (KeepBut w wc g none) ∧ Aside0 (Below w0.heap.size w0 wc))
 case first =>
  have H:=HC3.out
  clear HC3
  by_cases c5 : a1 < 1
  ·rw [if_pos c5] at H
   have c5b0 : decide (a1 < 1) = true:=decide_eq_true c5
   clear c5
   (first | rw [c5b0] | (simp only [i64_w,i32_w];rw [c5b0]) | skip)
   have H':=Aside0.mk H
   clear H
   go_wp2
   repeat (go_quiet (fail);try go_wp2)
   go_meet
   case rel => exact ⟨_,(true),(by first | rfl | (simp;done) | (simp [*];done)),H',⟨by first | omega | exact Nat.le_refl _⟩,⟨by repeat (first | (with_reducible first | exact HI0.out | apply IsS70.alloc | apply IsS70.drewN | apply IsS70.drew | apply IsS70.set_1) | exact HI0.out)⟩,⟨by repeat (first | (with_reducible first | exact HK.out | apply KeepBut.set_ | apply keep_drewN | apply keep_drew | apply keep_alloc) | exact HK.out)⟩,⟨by repeat (first | (with_reducible first | exact HB.out | apply below_alloc | apply pw_below_drewN | apply below_drew1 | refine below_set ?_ (IsS70.ge HI0.out)) | exact HB.out)⟩⟩
  ·rw [if_neg c5] at H
   have c5b0 : decide (a1 < 1) = false:=decide_eq_false c5
   clear c5
   (first | rw [c5b0] | (simp only [i64_w,i32_w];rw [c5b0]) | skip)
   have H':=Aside0.mk H
   clear H
   obtain ⟨ASz6_0,cSz6_0,HGz6,hgz6,HSz6_0⟩:=HI0.out
   have hcz6_0:=cellS70_0 HGz6
   have hcz6_1:=cellS70_1 HGz6
   have hfz6_1:=blk_frozen HGz6 1
   clear HGz6 hgz6
   go_wp2
   repeat (go_quiet (fail);try go_wp2)
   go_meet
   case rel => exact ⟨_,(((s0_0.length : Int) == 0)),(by first | rfl | (simp;done) | (simp [*];done)),H',⟨by first | omega | exact Nat.le_refl _⟩,⟨by repeat (first | (with_reducible first | exact HI0.out | apply IsS70.alloc | apply IsS70.drewN | apply IsS70.drew | apply IsS70.set_1) | exact HI0.out)⟩,⟨by repeat (first | (with_reducible first | exact HK.out | apply KeepBut.set_ | apply keep_drewN | apply keep_drew | apply keep_alloc) | exact HK.out)⟩,⟨by repeat (first | (with_reducible first | exact HB.out | apply below_alloc | apply pw_below_drewN | apply below_drew1 | refine below_set ?_ (IsS70.ge HI0.out)) | exact HB.out)⟩⟩
 case rest =>
  clear HC3
  try clear p2
  try clear c4
  try clear c5
  try clear c5b0
  try clear p6
  try clear hcz4_0
  try clear hcz4_1
  try clear hcz6_0
  try clear hcz6_1
  try clear hfz4_1
  try clear hfz6_1
  obtain ⟨kq,x24_2,rfl,HA,HJ2,HI0,HK,HB⟩:=hcut
  cases kq with
  | zero => exact absurd HA.out (by simp [spec_l6Rd_pick.j0])
  | succ kj2 =>
   have H:=HA.out
   clear HA
   simp only [spec_l6Rd_pick.j0] at H
   by_cases c7 : x24_2 = true
   ·subst c7
    have H1 : (some (0,(wrap64 (s0_1 + 1)))) = some (r1,r2):=by rw [if_pos rfl] at H;exact H
    clear H
    have H:=H1
    clear H1
    simp only [Option.some.injEq,Prod.mk.injEq] at H
    obtain ⟨rfl,rfl⟩:=H
    go_wp2
    repeat (go_quiet (fail);try go_wp2)
    go_ret
    exact ⟨by first | rfl | (simp [errW_none,errW_some] <;> rfl) | (simp [*,errW_none,errW_some] <;> rfl),by repeat (first | (with_reducible first | exact HI0.out | apply IsS70.alloc | apply IsS70.drewN | apply IsS70.drew | apply IsS70.set_1) | exact HI0.out),by repeat (first | (with_reducible first | exact HB.out | apply below_alloc | apply pw_below_drewN | apply below_drew1 | refine below_set ?_ (IsS70.ge HI0.out)) | exact HB.out),by repeat (first | (with_reducible first | exact HK.out | apply KeepBut.set_ | apply keep_drewN | apply keep_drew | apply keep_alloc) | exact HK.out)⟩
   ·replace c7:=Bool.eq_false_iff.mpr c7
    subst c7
    have H1 : (if (wrap64 ((wrap64 (s0_1 + 1)) - 1)) < (s0_0.length : Int) then (if 0 ≤ (wrap64 ((wrap64 (s0_1 + 1)) - 1)) then (if a1 = 0 then (none) else (some (Int.tmod (wrap64 (rd s0_0 (wrap64 ((wrap64 (s0_1 + 1)) - 1)))) a1,(wrap64 (s0_1 + 1))))) else (none)) else (if (s0_0.length : Int) = 0 then (none) else (if 0 ≤ (Int.tmod (wrap64 ((wrap64 (s0_1 + 1)) - 1)) (s0_0.length : Int)) then (if (Int.tmod (wrap64 ((wrap64 (s0_1 + 1)) - 1)) (s0_0.length : Int)) < (s0_0.length : Int) then (if 0 ≤ (Int.tmod (wrap64 ((wrap64 ((wrap64 ((wrap64 (s0_1 + 1)) - 1)) * 7)) + 3)) (s0_0.length : Int)) then (if (Int.tmod (wrap64 ((wrap64 ((wrap64 ((wrap64 (s0_1 + 1)) - 1)) * 7)) + 3)) (s0_0.length : Int)) < (s0_0.length : Int) then (if a1 = 0 then (none) else (some (Int.tmod (Go.bits .xor .i64 (wrap64 ((wrap64 ((wrap64 ((wrap64 ((wrap64 (rd s0_0 (Int.tmod (wrap64 ((wrap64 (s0_1 + 1)) - 1)) (s0_0.length : Int)))) * 131)) + (wrap64 ((wrap64 (rd s0_0 (Int.tmod (wrap64 ((wrap64 ((wrap64 ((wrap64 (s0_1 + 1)) - 1)) * 7)) + 3)) (s0_0.length : Int)))) * 1117)))) + (wrap64 ((wrap64 ((wrap64 (s0_1 + 1)) - 1)) * 29)))) + (wrap64 ((wrap64 (Int.tdiv (wrap64 ((wrap64 (s0_1 + 1)) - 1)) (s0_0.length : Int))) * 53)))) (wrap64 (Int.tdiv (wrap64 ((wrap64 ((wrap64 ((wrap64 ((wrap64 (rd s0_0 (Int.tmod (wrap64 ((wrap64 (s0_1 + 1)) - 1)) (s0_0.length : Int)))) * 131)) + (wrap64 ((wrap64 (rd s0_0 (Int.tmod (wrap64 ((wrap64 ((wrap64 ((wrap64 (s0_1 + 1)) - 1)) * 7)) + 3)) (s0_0.length : Int)))) * 1117)))) + (wrap64 ((wrap64 ((wrap64 (s0_1 + 1)) - 1)) * 29)))) + (wrap64 ((wrap64 (Int.tdiv (wrap64 ((wrap64 (s0_1 + 1)) - 1)) (s0_0.length : Int))) * 53)))) 64))) a1,(wrap64 (s0_1 + 1))))) else (none)) else (none)) else (none)) else (none)))) = some (r1,r2):=by rw [if_neg (show ¬ (false = true) by decide)] at H;exact H
    clear H
    have H:=H1
    clear H1
    by_cases c8 : (wrap64 ((wrap64 (s0_1 + 1)) - 1)) < (s0_0.length : Int)
    ·rw [if_pos c8] at H
     have c8b0 : decide ((wrap64 ((wrap64 (s0_1 + 1)) - 1)) < (s0_0.length : Int)) = true:=decide_eq_true c8
     clear c8
     obtain ⟨ji9,hji9⟩ : ∃ j_ : Int,(wrap64 ((wrap64 (s0_1 + 1)) - 1)) = j_:=⟨_,rfl⟩
     replace H : (if 0 ≤ (ji9) then (if a1 = 0 then (none) else (some (Int.tmod (wrap64 (rd s0_0 (ji9))) a1,(wrap64 (s0_1 + 1))))) else (none)) = some (r1,r2):=by first | (rw [hji9] at H;exact H) | (simp only [hji9] at H ⊢;exact H)
     (try rw [hji9] at c8b0)
     have hji9w : (IntKind.i64.wrap ((wrap64 (s0_1 + 1)) - 1)) = ji9:=(i64_w _).trans hji9
     by_cases c10 : 0 ≤ (ji9)
     ·rw [if_pos c10] at H
      have c10b0 : decide (0 ≤ (ji9)) = true:=decide_eq_true c10
      clear c10
      by_cases c11 : a1 = 0
      ·rw [if_pos c11] at H
       exact absurd H (by simp)
      ·rw [if_neg c11] at H
       have c11b0 : (a1 == 0) = false:=beq_eq_false_iff_ne.mpr c11
       have c11b1 : (a1 != 0) = true:=bne_iff_ne.mpr c11
       simp only [Option.some.injEq,Prod.mk.injEq] at H
       obtain ⟨rfl,rfl⟩:=H
       obtain ⟨ASz12_0,cSz12_0,HGz12,hgz12,HSz12_0⟩:=HI0.out
       have hcz12_0:=cellS70_0 HGz12
       have hcz12_1:=cellS70_1 HGz12
       have hfz12_1:=blk_frozen HGz12 1
       clear HGz12 hgz12
       have p231 : 0 ≤ ((ji9) : Int):=Up.od
       have q231 : (ji9) < (s0_0.length : Int):=Up.od
       obtain ⟨ad231,e231,hx231_0⟩:=Kd.at_int HSz12_0 (ji9) p231 q231
       cases e231
       replace hx231_0:=pw_cell_below HB.out hx231_0
       replace p231:=eq_true p231
       replace q231:=eq_true q231
       go_wp2
       repeat (go_quiet (fail);try go_wp2)
       go_ret
       exact ⟨by first | rfl | (simp [errW_none,errW_some] <;> rfl) | (simp only [← hji9];first | rfl | (simp [errW_none,errW_some] <;> rfl)) | (simp [*,errW_none,errW_some] <;> rfl),by repeat (first | (with_reducible first | exact HI0.out | apply IsS70.alloc | apply IsS70.drewN | apply IsS70.drew | apply IsS70.set_1) | exact HI0.out),by repeat (first | (with_reducible first | exact HB.out | apply below_alloc | apply pw_below_drewN | apply below_drew1 | refine below_set ?_ (IsS70.ge HI0.out)) | exact HB.out),by repeat (first | (with_reducible first | exact HK.out | apply KeepBut.set_ | apply keep_drewN | apply keep_drew | apply keep_alloc) | exact HK.out)⟩
     ·rw [if_neg c10] at H
      exact absurd H (by simp)
    ·rw [if_neg c8] at H
     have c8b0 : decide ((wrap64 ((wrap64 (s0_1 + 1)) - 1)) < (s0_0.length : Int)) = false:=decide_eq_false c8
     clear c8
     by_cases c13 : (s0_0.length : Int) = 0
     ·rw [if_pos c13] at H
      exact absurd H (by simp)
     ·rw [if_neg c13] at H
      have c13b0 : ((s0_0.length : Int) == 0) = false:=beq_eq_false_iff_ne.mpr c13
      have c13b1 : ((s0_0.length : Int) != 0) = true:=bne_iff_ne.mpr c13
      have c13b2 : ¬ (s0_0 = []):=fun h_ => c13 (by rw [h_];rfl)
      obtain ⟨ji14,hji14⟩ : ∃ j_ : Int,(Int.tmod (wrap64 ((wrap64 (s0_1 + 1)) - 1)) (s0_0.length : Int)) = j_:=⟨_,rfl⟩
      replace H : (if 0 ≤ (ji14) then (if (ji14) < (s0_0.length : Int) then (if 0 ≤ (Int.tmod (wrap64 ((wrap64 ((wrap64 ((wrap64 (s0_1 + 1)) - 1)) * 7)) + 3)) (s0_0.length : Int)) then (if (Int.tmod (wrap64 ((wrap64 ((wrap64 ((wrap64 (s0_1 + 1)) - 1)) * 7)) + 3)) (s0_0.length : Int)) < (s0_0.length : Int) then (if a1 = 0 then (none) else (some (Int.tmod (Go.bits .xor .i64 (wrap64 ((wrap64 ((wrap64 ((wrap64 ((wrap64 (rd s0_0 (ji14))) * 131)) + (wrap64 ((wrap64 (rd s0_0 (Int.tmod (wrap64 ((wrap64 ((wrap64 ((wrap64 (s0_1 + 1)) - 1)) * 7)) + 3)) (s0_0.length : Int)))) * 1117)))) + (wrap64 ((wrap64 ((wrap64 (s0_1 + 1)) - 1)) * 29)))) + (wrap64 ((wrap64 (Int.tdiv (wrap64 ((wrap64 (s0_1 + 1)) - 1)) (s0_0.length : Int))) * 53)))) (wrap64 (Int.tdiv (wrap64 ((wrap64 ((wrap64 ((wrap64 ((wrap64 (rd s0_0 (ji14))) * 131)) + (wrap64 ((wrap64 (rd s0_0 (Int.tmod (wrap64 ((wrap64 ((wrap64 ((wrap64 (s0_1 + 1)) - 1)) * 7)) + 3)) (s0_0.length : Int)))) * 1117)))) + (wrap64 ((wrap64 ((wrap64 (s0_1 + 1)) - 1)) * 29)))) + (wrap64 ((wrap64 (Int.tdiv (wrap64 ((wrap64 (s0_1 + 1)) - 1)) (s0_0.length : Int))) * 53)))) 64))) a1,(wrap64 (s0_1 + 1))))) else (none)) else (none)) else (none)) else (none)) = some (r1,r2):=by first | (rw [hji14] at H;exact H) | (simp only [hji14] at H ⊢;exact H)
      by_cases c15 : 0 ≤ (ji14)
      ·rw [if_pos c15] at H
       have c15b0 : decide (0 ≤ (ji14)) = true:=decide_eq_true c15
       clear c15
       by_cases c16 : (ji14) < (s0_0.length : Int)
       ·rw [if_pos c16] at H
        have c16b0 : decide ((ji14) < (s0_0.length : Int)) = true:=decide_eq_true c16
        clear c16
        obtain ⟨ji17,hji17⟩ : ∃ j_ : Int,(Int.tmod (wrap64 ((wrap64 ((wrap64 ((wrap64 (s0_1 + 1)) - 1)) * 7)) + 3)) (s0_0.length : Int)) = j_:=⟨_,rfl⟩
        replace H : (if 0 ≤ (ji17) then (if (ji17) < (s0_0.length : Int) then (if a1 = 0 then (none) else (some (Int.tmod (Go.bits .xor .i64 (wrap64 ((wrap64 ((wrap64 ((wrap64 ((wrap64 (rd s0_0 (ji14))) * 131)) + (wrap64 ((wrap64 (rd s0_0 (ji17))) * 1117)))) + (wrap64 ((wrap64 ((wrap64 (s0_1 + 1)) - 1)) * 29)))) + (wrap64 ((wrap64 (Int.tdiv (wrap64 ((wrap64 (s0_1 + 1)) - 1)) (s0_0.length : Int))) * 53)))) (wrap64 (Int.tdiv (wrap64 ((wrap64 ((wrap64 ((wrap64 ((wrap64 (rd s0_0 (ji14))) * 131)) + (wrap64 ((wrap64 (rd s0_0 (ji17))) * 1117)))) + (wrap64 ((wrap64 ((wrap64 (s0_1 + 1)) - 1)) * 29)))) + (wrap64 ((wrap64 (Int.tdiv (wrap64 ((wrap64 (s0_1 + 1)) - 1)) (s0_0.length : Int))) * 53)))) 64))) a1,(wrap64 (s0_1 + 1))))) else (none)) else (none)) = some (r1,r2):=by first | (rw [hji17] at H;exact H) | (simp only [hji17] at H ⊢;exact H)
        by_cases c18 : 0 ≤ (ji17)
        ·rw [if_pos c18] at H
         have c18b0 : decide (0 ≤ (ji17)) = true:=decide_eq_true c18
         clear c18
         by_cases c19 : (ji17) < (s0_0.length : Int)
         ·rw [if_pos c19] at H
          have c19b0 : decide ((ji17) < (s0_0.length : Int)) = true:=decide_eq_true c19
          clear c19
          by_cases c20 : a1 = 0
          ·rw [if_pos c20] at H
           exact absurd H (by simp)
          ·rw [if_neg c20] at H
           have c20b0 : (a1 == 0) = false:=beq_eq_false_iff_ne.mpr c20
           have c20b1 : (a1 != 0) = true:=bne_iff_ne.mpr c20
           simp only [Option.some.injEq,Prod.mk.injEq] at H
           obtain ⟨rfl,rfl⟩:=H
           obtain ⟨ASz21_0,cSz21_0,HGz21,hgz21,HSz21_0⟩:=HI0.out
           have hcz21_0:=cellS70_0 HGz21
           have hcz21_1:=cellS70_1 HGz21
           have hfz21_1:=blk_frozen HGz21 1
           clear HGz21 hgz21
           have p232 : 0 ≤ ((ji14) : Int):=Up.od
           have q232 : (ji14) < (s0_0.length : Int):=Up.od
           obtain ⟨ad232,e232,hx232_0⟩:=Kd.at_int HSz21_0 (ji14) p232 q232
           cases e232
           replace hx232_0:=pw_cell_below HB.out hx232_0
           replace p232:=eq_true p232
           replace q232:=eq_true q232
           have p233 : 0 ≤ ((ji17) : Int):=Up.od
           have q233 : (ji17) < (s0_0.length : Int):=Up.od
           obtain ⟨ad233,e233,hx233_0⟩:=Kd.at_int HSz21_0 (ji17) p233 q233
           obtain rfl : ad232 = ad233:=(by injection e233)
           replace hx233_0:=pw_cell_below HB.out hx233_0
           replace p233:=eq_true p233
           replace q233:=eq_true q233
           go_wp2
           repeat (go_quiet (fail);try go_wp2)
           go_ret
           exact ⟨by first | rfl | (simp [errW_none,errW_some] <;> rfl) | (simp only [← hji14,← hji17];first | rfl | (simp [errW_none,errW_some] <;> rfl)) | (simp [*,errW_none,errW_some] <;> rfl),by repeat (first | (with_reducible first | exact HI0.out | apply IsS70.alloc | apply IsS70.drewN | apply IsS70.drew | apply IsS70.set_1) | exact HI0.out),by repeat (first | (with_reducible first | exact HB.out | apply below_alloc | apply pw_below_drewN | apply below_drew1 | refine below_set ?_ (IsS70.ge HI0.out)) | exact HB.out),by repeat (first | (with_reducible first | exact HK.out | apply KeepBut.set_ | apply keep_drewN | apply keep_drew | apply keep_alloc) | exact HK.out)⟩
         ·rw [if_neg c19] at H
          exact absurd H (by simp)
        ·rw [if_neg c18] at H
         exact absurd H (by simp)
       ·rw [if_neg c16] at H
        exact absurd H (by simp)
      ·rw [if_neg c15] at H
       exact absurd H (by simp)

/-! ### spec_l91Ins: function 41 -/
def spec_l91Ins.f (k : Nat) (s0_0 : List Int) (s0_1 : Int) : Option (ByteArray × Int × Int × Int):=(spec_l3Table.f).bind fun t235 => ((spec_l6Rd_pick.f k s0_0 s0_1 (t235.length : Int)).bind fun bt238 => (if 0 ≤ bt238.1 then (if bt238.1 < (t235.length : Int) then (if ((rd_T26 t235 bt238.1).f1) > 0 then ((spec_l6Rd_pick.f k s0_0 bt238.2 (mn ((rd_T26 t235 bt238.1).f1) 12)).bind fun bt242 => (if ((rd_T26 t235 bt238.1).f2) > 0 then ((spec_l6Rd_pick.f k s0_0 bt242.2 ((rd_T26 t235 bt238.1).f2)).bind fun bt244 => (some ((rd_T26 t235 bt238.1).f0,bt242.1,bt244.1,bt244.2))) else (some ((rd_T26 t235 bt238.1).f0,bt242.1,(rd_T26 t235 bt238.1).f2,bt242.2)))) else (if ((rd_T26 t235 bt238.1).f2) > 0 then ((spec_l6Rd_pick.f k s0_0 bt238.2 ((rd_T26 t235 bt238.1).f2)).bind fun bt246 => (some ((rd_T26 t235 bt238.1).f0,(rd_T26 t235 bt238.1).f1,bt246.1,bt246.2))) else (some ((rd_T26 t235 bt238.1).f0,(rd_T26 t235 bt238.1).f1,(rd_T26 t235 bt238.1).f2,bt238.2)))) else (none)) else (none)))
theorem spec_l91Ins.mono : ∀ a0 a1 k,LeO (spec_l91Ins.f k a0 a1) (spec_l91Ins.f (k + 1) a0 a1):=by
 intro a0 a1 k
 unfold spec_l91Ins.f
 repeat' first
   | (with_reducible exact spec_l6Rd_pick.mono _ _ _ _)
   | (with_reducible exact LeO.refl _)
   | (with_reducible exact LeO.none _)
   | (with_reducible refine LeO.ite ?_ ?_)
   | (with_reducible refine LeO.bind ?_ (fun _ => ?_))
   | exact spec_l6Rd_pick.mono _ _ _ _
   | exact LeO.none _
   | refine LeO.ite ?_ ?_
   | refine LeO.bind ?_ (fun _ => ?_)
set_option maxHeartbeats 8000000 in
set_option maxRecDepth 100000 in
theorem spec_l91Ins.calls (k : Nat) (g : Nat) (s0_0 : List Int) (s0_1 : Int) (r1 : ByteArray) (r2 : Int) (r3 : Int) (r4 : Int) (w0 w : World) (hI : IsS70 w0 w g s0_0 s0_1) (hB : Below w0.heap.size w0 w) (h : spec_l91Ins.f k s0_0 s0_1 = some (r1,r2,r3,r4)) :
  Calls Tryd.prog 41 #[.pointer (some ⟨g,0,none⟩)] w fun e w' => e = .returned (.agg #[.string r1,.int .i64 r2,.int .i64 r3]) ∧ IsS70 w0 w' g s0_0 r4 ∧ Below w0.heap.size w0 w' ∧ KeepBut w w' g none:=by
 have hu26:=Tryd.underlying26
 have HI0:=Aside0.mk hI
 have HK:=Aside0.mk (KeepBut.refl w g none)
 have HL:=Aside0.mk hB.size
 clear hI
 have HW0:=Aside0.mk hB.size
 have HB:=Aside0.mk hB
 clear hB
 have H : ((spec_l3Table.f).bind fun t235 => ((spec_l6Rd_pick.f k s0_0 s0_1 (t235.length : Int)).bind fun bt238 => (if 0 ≤ bt238.1 then (if bt238.1 < (t235.length : Int) then (if ((rd_T26 t235 bt238.1).f1) > 0 then ((spec_l6Rd_pick.f k s0_0 bt238.2 (mn ((rd_T26 t235 bt238.1).f1) 12)).bind fun bt242 => (if ((rd_T26 t235 bt238.1).f2) > 0 then ((spec_l6Rd_pick.f k s0_0 bt242.2 ((rd_T26 t235 bt238.1).f2)).bind fun bt244 => (some ((rd_T26 t235 bt238.1).f0,bt242.1,bt244.1,bt244.2))) else (some ((rd_T26 t235 bt238.1).f0,bt242.1,(rd_T26 t235 bt238.1).f2,bt242.2)))) else (if ((rd_T26 t235 bt238.1).f2) > 0 then ((spec_l6Rd_pick.f k s0_0 bt238.2 ((rd_T26 t235 bt238.1).f2)).bind fun bt246 => (some ((rd_T26 t235 bt238.1).f0,(rd_T26 t235 bt238.1).f1,bt246.1,bt246.2))) else (some ((rd_T26 t235 bt238.1).f0,(rd_T26 t235 bt238.1).f1,(rd_T26 t235 bt238.1).f2,bt238.2)))) else (none)) else (none)))) = some (r1,r2,r3,r4):=h
 clear h
 replace H:=Option.bind_eq_some_iff.mp H
 obtain ⟨t235,A20,H⟩:=H
 replace H : ((spec_l6Rd_pick.f k s0_0 s0_1 (t235.length : Int)).bind fun bt238 => (if 0 ≤ bt238.1 then (if bt238.1 < (t235.length : Int) then (if ((rd_T26 t235 bt238.1).f1) > 0 then ((spec_l6Rd_pick.f k s0_0 bt238.2 (mn ((rd_T26 t235 bt238.1).f1) 12)).bind fun bt242 => (if ((rd_T26 t235 bt238.1).f2) > 0 then ((spec_l6Rd_pick.f k s0_0 bt242.2 ((rd_T26 t235 bt238.1).f2)).bind fun bt244 => (some ((rd_T26 t235 bt238.1).f0,bt242.1,bt244.1,bt244.2))) else (some ((rd_T26 t235 bt238.1).f0,bt242.1,(rd_T26 t235 bt238.1).f2,bt242.2)))) else (if ((rd_T26 t235 bt238.1).f2) > 0 then ((spec_l6Rd_pick.f k s0_0 bt238.2 ((rd_T26 t235 bt238.1).f2)).bind fun bt246 => (some ((rd_T26 t235 bt238.1).f0,(rd_T26 t235 bt238.1).f1,bt246.1,bt246.2))) else (some ((rd_T26 t235 bt238.1).f0,(rd_T26 t235 bt238.1).f1,(rd_T26 t235 bt238.1).f2,bt238.2)))) else (none)) else (none))) = some (r1,r2,r3,r4):=H
 have A2:=Aside0.mk A20
 clear A20
 replace H:=Option.bind_eq_some_iff.mp H
 obtain ⟨⟨t238,t239⟩,A30,H⟩:=H
 replace H : (if 0 ≤ t238 then (if t238 < (t235.length : Int) then (if ((rd_T26 t235 t238).f1) > 0 then ((spec_l6Rd_pick.f k s0_0 t239 (mn ((rd_T26 t235 t238).f1) 12)).bind fun bt242 => (if ((rd_T26 t235 t238).f2) > 0 then ((spec_l6Rd_pick.f k s0_0 bt242.2 ((rd_T26 t235 t238).f2)).bind fun bt244 => (some ((rd_T26 t235 t238).f0,bt242.1,bt244.1,bt244.2))) else (some ((rd_T26 t235 t238).f0,bt242.1,(rd_T26 t235 t238).f2,bt242.2)))) else (if ((rd_T26 t235 t238).f2) > 0 then ((spec_l6Rd_pick.f k s0_0 t239 ((rd_T26 t235 t238).f2)).bind fun bt246 => (some ((rd_T26 t235 t238).f0,(rd_T26 t235 t238).f1,bt246.1,bt246.2))) else (some ((rd_T26 t235 t238).f0,(rd_T26 t235 t238).f1,(rd_T26 t235 t238).f2,t239)))) else (none)) else (none)) = some (r1,r2,r3,r4):=H
 have A3:=Aside0.mk A30
 clear A30
 by_cases c4 : 0 ≤ t238
 ·rw [if_pos c4] at H
  have c4b0 : decide (0 ≤ t238) = true:=decide_eq_true c4
  clear c4
  by_cases c5 : t238 < (t235.length : Int)
  ·rw [if_pos c5] at H
   have c5b0 : decide (t238 < (t235.length : Int)) = true:=decide_eq_true c5
   clear c5
   by_cases c6 : ((rd_T26 t235 t238).f1) > 0
   ·rw [if_pos c6] at H
    have c6b0 : decide (0 < ((rd_T26 t235 t238).f1)) = true:=decide_eq_true c6
    clear c6
    obtain ⟨ji7,hji7⟩ : ∃ j_ : Int,(mn ((rd_T26 t235 t238).f1) 12) = j_:=⟨_,rfl⟩
    replace H : ((spec_l6Rd_pick.f k s0_0 t239 (ji7)).bind fun bt242 => (if ((rd_T26 t235 t238).f2) > 0 then ((spec_l6Rd_pick.f k s0_0 bt242.2 ((rd_T26 t235 t238).f2)).bind fun bt244 => (some ((rd_T26 t235 t238).f0,bt242.1,bt244.1,bt244.2))) else (some ((rd_T26 t235 t238).f0,bt242.1,(rd_T26 t235 t238).f2,bt242.2)))) = some (r1,r2,r3,r4):=by first | (rw [hji7] at H;exact H) | (simp only [hji7] at H ⊢;exact H)
    (try rw [hji7] at A2)
    (try rw [hji7] at A3)
    (try (have hji7h : ji7 ≤ 12:=by (rw [← hji7];unfold mn;(repeat' split) <;> omega)))
    (try (have hji7g : ji7 ≤ 64:=by omega))
    have hji7_ : (if 12 < ((rd_T26 t235 t238).f1) then 12 else ((rd_T26 t235 t238).f1)) = ji7:=hji7
    replace H:=Option.bind_eq_some_iff.mp H
    obtain ⟨⟨t242,t243⟩,A80,H⟩:=H
    replace H : (if ((rd_T26 t235 t238).f2) > 0 then ((spec_l6Rd_pick.f k s0_0 t243 ((rd_T26 t235 t238).f2)).bind fun bt244 => (some ((rd_T26 t235 t238).f0,t242,bt244.1,bt244.2))) else (some ((rd_T26 t235 t238).f0,t242,(rd_T26 t235 t238).f2,t243))) = some (r1,r2,r3,r4):=H
    have A8:=Aside0.mk A80
    clear A80
    by_cases c9 : ((rd_T26 t235 t238).f2) > 0
    ·rw [if_pos c9] at H
     have c9b0 : decide (0 < ((rd_T26 t235 t238).f2)) = true:=decide_eq_true c9
     clear c9
     replace H:=Option.bind_eq_some_iff.mp H
     obtain ⟨⟨t244,t245⟩,A100,H⟩:=H
     replace H : (some ((rd_T26 t235 t238).f0,t242,t244,t245)) = some (r1,r2,r3,r4):=H
     have A10:=Aside0.mk A100
     clear A100
     simp only [Option.some.injEq,Prod.mk.injEq] at H
     obtain ⟨rfl,rfl,rfl,rfl⟩:=H
     go_enter Tryd.func41,Tryd.ntmps41
     go_wp2_with (first | ((with_reducible refine gate_dst (N:=2) rfl ?_);refine Up.bx 2 26 #[.string (⟨#[]⟩ : ByteArray),.int .i64 0,.int .i64 0] ?_;intro gb234 hg w11 hbox hb;have n0_:=Aside0.mk (IsS70.below (Ip0 HI0) hb);have n1_:=Aside0.mk (KeepBut.trans (Up.Kp0 HK) (KeepBut.of_below hb g none) (.inl rfl));have n2_:=Aside0.mk (below_step (Up.Bs HB (IsS70.ge HI0.out)) hb);have n3_:=Aside0.mk (hbox);have n4_:=Aside0.mk ((by rw [hg];exact (keep_size (w:=w) (g:=g) (row:=none) (Up.Kp0 HK)) : w.heap.size ≤ gb234));have n5_:=Aside0.mk ((Nat.le_trans HW0.out (by rw [hg];exact (keep_size (w:=w) (g:=g) (row:=none) (Up.Kp0 HK)) : w.heap.size ≤ gb234) : w0.heap.size ≤ gb234));have n6_:=Aside0.mk ((by rw [hg];exact Nat.ne_of_lt (IsS70.lt (show IsS70 w0 _ g s0_0 s0_1 from by repeat (first | (with_reducible first | exact HI0.out | apply IsS70.alloc | apply IsS70.drewN | apply IsS70.drew | apply IsS70.set_1) | exact HI0.out))) : g ≠ gb234));have n7_:=Aside0.mk ((by rw [hg];exact Nat.ne_of_gt (IsS70.lt (show IsS70 w0 _ g s0_0 s0_1 from by repeat (first | (with_reducible first | exact HI0.out | apply IsS70.alloc | apply IsS70.drewN | apply IsS70.drew | apply IsS70.set_1) | exact HI0.out))) : gb234 ≠ g));clear HI0 HK HB;have HI0:=n0_;have HK:=n1_;have HB:=n2_;have BK234:=n3_;have GW234:=n4_;have GE234:=n5_;have NB0_234:=n6_;have NB234_0:=n7_;clear n0_ n1_ n2_ n3_ n4_ n5_ n6_ n7_ hb hbox hg) | ((with_reducible refine gate_callee (f:=36) rfl ?_);refine Up.gl (some 5) Tryd.func36 #[] ?_;(with_reducible refine (spec_l3Table.calls  t235 _ A2.out).mono ?_);rintro e w12 ⟨v236,rfl,ho0,hb⟩;refine ⟨_,rfl,?_⟩;have n0_:=Aside0.mk (Kd.R_lower (Kd.R_newB ho0 (g:=gb234) (o:=.cells #[.string (⟨#[]⟩ : ByteArray),.int .i64 0,.int .i64 0] 26 (0,0)) (Up.Kup BK234)) (keep_size (w:=w) (g:=g) (row:=none) (Up.Kp HK GW234)));have n1_:=Aside0.mk (IsS70.below (Ip1 HI0 NB0_234) hb);have n2_:=Up.KB BK234 hb;have n3_:=Aside0.mk (KeepBut.trans (Up.Kp HK GW234) (KeepBut.of_below hb g none) (.inl rfl));have n4_:=Aside0.mk (below_step (Up.Bt HB (IsS70.ge HI0.out) GE234) hb);clear HI0 BK234 HK HB;have HO237:=n0_;have HI0:=n1_;have BK234:=n2_;have HK:=n3_;have HB:=n4_;clear n0_ n1_ n2_ n3_ n4_;(try clear hb);(try clear hb2);(try clear hk);(try clear hi);(try clear ho0);obtain ⟨Ao13,co13,eo13⟩:=Kd.R_slice HO237.out;subst eo13) | ((with_reducible refine gate_callee (f:=42) rfl ?_);refine Up.gl (some 10) Tryd.func42 #[.pointer (some ⟨g,0,none⟩),.int .i64 (t235.length : Int)] ?_;(with_reducible refine (spec_l6Rd_pick.calls k g s0_0 s0_1 (t235.length : Int) t238 t239 w0 _ ?side1 ?side2 A3.out).mono ?_);(case side1 => repeat (first | (with_reducible first | exact HI0.out | apply IsS70.alloc | apply IsS70.drewN | apply IsS70.drew | apply IsS70.set_1 | refine IsS70.far ?_ NB0_234.out _) | exact HI0.out));(case side2 => repeat (first | (with_reducible first | exact HB.out | apply below_alloc | apply pw_below_drewN | apply below_drew1 | refine below_set ?_ (IsS70.ge HI0.out) | refine below_set ?_ GE234.out) | exact HB.out));rintro e w14 ⟨rfl,hi,hb,hk⟩;refine ⟨_,rfl,?_⟩;have n0_:=Aside0.mk (KeepBut.blk hk (g':=gb234) (o:=.cells #[.string (⟨#[]⟩ : ByteArray),.int .i64 0,.int .i64 0] 26 (0,0)) (Up.Kup BK234) NB234_0.out (by simp));have n1_:=Aside0.mk (Kd.R_mono (Kd.R_keep (IsS70.apart (show IsS70 w0 _ g s0_0 s0_1 from by repeat (first | (with_reducible first | exact HI0.out | apply IsS70.alloc | apply IsS70.drewN | apply IsS70.drew | apply IsS70.set_1 | refine IsS70.far ?_ NB0_234.out _) | exact HI0.out)) (Up.Rup HO237) (by decide)) hk (fun _ h => h.2)) (fun _ h => h.1));have n2_:=Aside0.mk (KeepBut.trans (Up.Kp HK GW234) hk (.inl rfl));have n3_:=Aside0.mk (hb);have n4_:=Aside0.mk (hi);clear BK234 HO237 HK HB HI0;have BK234:=n0_;have HO237:=n1_;have HK:=n2_;have HB:=n3_;have HI0:=n4_;clear n0_ n1_ n2_ n3_ n4_;(try clear hb);(try clear hb2);(try clear hk);(try clear hi);have p240 : 0 ≤ (t238 : Int):=Up.od;have q240 : t238 < (t235.length : Int):=Up.od;obtain ⟨ad240,e240,hx240_0,hx240_1,hx240_2⟩:=at_T26 (Kd.R_reads' HO237.out).2.2 t238 p240 q240;cases e240;replace p240:=eq_true p240;replace q240:=eq_true q240) | ((with_reducible refine gate_dst (N:=4) rfl ?_);refine Up.bx 4 26 #[.string (⟨#[]⟩ : ByteArray),.int .i64 0,.int .i64 0] ?_;intro gb241 hg w15 hbox hb;have n0_:=Aside0.mk (Kd.R_below (Kd.R_elderB (Up.Rup HO237) gb241 (Nat.le_of_eq hg.symm)) hb);have n1_:=Aside0.mk (IsS70.below (Ip1 HI0 NB0_234) hb);have n2_:=Up.KB BK234 hb;have n3_:=Aside0.mk (KeepBut.trans (Up.Kp HK GW234) (KeepBut.of_below hb g none) (.inl rfl));have n4_:=Aside0.mk (below_step (Up.Bt HB (IsS70.ge HI0.out) GE234) hb);have n5_:=Aside0.mk (hbox);have n6_:=Aside0.mk ((by rw [hg];exact (keep_size (w:=w) (g:=g) (row:=none) (Up.Kp HK GW234)) : w.heap.size ≤ gb241));have n7_:=Aside0.mk ((Nat.le_trans HW0.out (by rw [hg];exact (keep_size (w:=w) (g:=g) (row:=none) (Up.Kp HK GW234)) : w.heap.size ≤ gb241) : w0.heap.size ≤ gb241));have n8_:=Up.nl hg BK234;have n9_:=Up.ng hg BK234;have n10_:=Aside0.mk ((by rw [hg];exact Nat.ne_of_lt (IsS70.lt (show IsS70 w0 _ g s0_0 t239 from by repeat (first | (with_reducible first | exact HI0.out | apply IsS70.alloc | apply IsS70.drewN | apply IsS70.drew | apply IsS70.set_1 | refine IsS70.far ?_ NB0_234.out _) | exact HI0.out))) : g ≠ gb241));have n11_:=Aside0.mk ((by rw [hg];exact Nat.ne_of_gt (IsS70.lt (show IsS70 w0 _ g s0_0 t239 from by repeat (first | (with_reducible first | exact HI0.out | apply IsS70.alloc | apply IsS70.drewN | apply IsS70.drew | apply IsS70.set_1 | refine IsS70.far ?_ NB0_234.out _) | exact HI0.out))) : gb241 ≠ g));clear HO237 HI0 BK234 HK HB;have HO237:=n0_;have HI0:=n1_;have BK234:=n2_;have HK:=n3_;have HB:=n4_;have BK241:=n5_;have GW241:=n6_;have GE241:=n7_;have NB234_241:=n8_;have NB241_234:=n9_;have NB0_241:=n10_;have NB241_0:=n11_;clear n0_ n1_ n2_ n3_ n4_ n5_ n6_ n7_ n8_ n9_ n10_ n11_ hb hbox hg;have hnb16:=NB241_234.out;have hnc16:=NB234_241.out;have hnb17:=NB241_0.out;have hnc17:=NB0_241.out;have hcz18_0:=Up.c0 BK241;have hcz18_1:=Up.c1 BK241;have hcz18_2:=Up.c2 BK241;have hfz18_0:=blk_frozen BK241.out 0;have hfz18_1:=blk_frozen BK241.out 1;have hfz18_2:=blk_frozen BK241.out 2) | ((with_reducible refine gate_callee (f:=42) rfl ?_);refine goesL_ (some 20) rfl rfl Tryd.func42 (by kernel_rfl) rfl #[.pointer (some ⟨g,0,none⟩),.int .i64 ji7] rfl (by (try simp only [List.map_toArray,List.map_cons,List.map_nil]);first | done | (simp only [hji7];rfl) | rfl | (simp only [List.length_drop,List.length_take];rfl)) ?_;(with_reducible refine (spec_l6Rd_pick.calls k g s0_0 t239 ji7 t242 t243 w0 _ ?side1 ?side2 A8.out).mono ?_);(case side1 => repeat (first | (with_reducible first | exact HI0.out | apply IsS70.alloc | apply IsS70.drewN | apply IsS70.drew | apply IsS70.set_1 | refine IsS70.far ?_ NB0_234.out _ | refine IsS70.far ?_ NB0_241.out _) | exact HI0.out));(case side2 => repeat (first | (with_reducible first | exact HB.out | apply below_alloc | apply pw_below_drewN | apply below_drew1 | refine below_set ?_ (IsS70.ge HI0.out) | refine below_set ?_ GE234.out | refine below_set ?_ GE241.out) | exact HB.out));rintro e w19 ⟨rfl,hi,hb,hk⟩;refine ⟨_,rfl,?_⟩;have n0_:=Aside0.mk (KeepBut.blk hk (g':=gb234) (o:=.cells #[.string (⟨#[]⟩ : ByteArray),.int .i64 0,.int .i64 0] 26 (0,0)) (Up.Kx BK234) NB234_0.out (by simp));have n1_:=Aside0.mk (Kd.R_mono (Kd.R_keep (IsS70.apart (show IsS70 w0 _ g s0_0 t239 from by repeat (first | (with_reducible first | exact HI0.out | apply IsS70.alloc | apply IsS70.drewN | apply IsS70.drew | apply IsS70.set_1 | refine IsS70.far ?_ NB0_234.out _ | refine IsS70.far ?_ NB0_241.out _) | exact HI0.out)) (by (with_reducible repeat (first | apply Kd.R_alloc | apply Kd.R_drewN | apply Kd.R_drew));exact (Kd.R_mono (Kd.R_far (p:=⟨gb241,2,none⟩) (Kd.R_far (p:=⟨gb241,1,none⟩) (Kd.R_far (p:=⟨gb241,0,none⟩) (Kd.R_mono HO237.out (fun k_ hk => (⟨hk,hk.2⟩ : _ ∧ k_ ≠ gb241))) (fun _ hk => hk.2) (.string ((rd_T26 t235 t238).f0))) (fun _ hk => hk.2) (.int .i64 ((rd_T26 t235 t238).f1))) (fun _ hk => hk.2) (.int .i64 ((rd_T26 t235 t238).f2))) (fun _ h_ => h_.1))) (by decide)) hk (fun _ h => h.2)) (fun _ h => h.1));have n2_:=Aside0.mk (KeepBut.blk hk (g':=gb241) (o:=.cells #[.string ((rd_T26 t235 t238).f0),.int .i64 ((rd_T26 t235 t238).f1),.int .i64 ((rd_T26 t235 t238).f2)] 26 (0,0)) (Up.Kx BK241) NB241_0.out (by simp));have n3_:=Aside0.mk (KeepBut.trans (by repeat (first | (with_reducible first | exact HK.out | apply KeepBut.set_ | apply keep_drewN | apply keep_drew | apply keep_alloc | refine keep_far ?_ GW234.out _ | refine keep_far ?_ GW241.out _) | exact HK.out)) hk (.inl rfl));have n4_:=Aside0.mk (hb);have n5_:=Aside0.mk (hi);clear BK234 HO237 BK241 HK HB HI0;have BK234:=n0_;have HO237:=n1_;have BK241:=n2_;have HK:=n3_;have HB:=n4_;have HI0:=n5_;clear n0_ n1_ n2_ n3_ n4_ n5_;(try clear hb);(try clear hb2);(try clear hk);(try clear hi);have hcz20_0:=Up.c0 BK241;have hcz20_1:=Up.c1 BK241;have hcz20_2:=Up.c2 BK241;have hfz20_0:=blk_frozen BK241.out 0;have hfz20_1:=blk_frozen BK241.out 1;have hfz20_2:=blk_frozen BK241.out 2) | ((with_reducible refine gate_callee (f:=42) rfl ?_);refine Up.gl (some 28) Tryd.func42 #[.pointer (some ⟨g,0,none⟩),.int .i64 ((rd_T26 t235 t238).f2)] ?_;(with_reducible refine (spec_l6Rd_pick.calls k g s0_0 t243 ((rd_T26 t235 t238).f2) t244 t245 w0 _ ?side1 ?side2 A10.out).mono ?_);(case side1 => repeat (first | (with_reducible first | exact HI0.out | apply IsS70.alloc | apply IsS70.drewN | apply IsS70.drew | apply IsS70.set_1 | refine IsS70.far ?_ NB0_234.out _ | refine IsS70.far ?_ NB0_241.out _) | exact HI0.out));(case side2 => repeat (first | (with_reducible first | exact HB.out | apply below_alloc | apply pw_below_drewN | apply below_drew1 | refine below_set ?_ (IsS70.ge HI0.out) | refine below_set ?_ GE234.out | refine below_set ?_ GE241.out) | exact HB.out));rintro e w21 ⟨rfl,hi,hb,hk⟩;refine ⟨_,rfl,?_⟩;have n0_:=Aside0.mk (KeepBut.blk hk (g':=gb234) (o:=.cells #[.string (⟨#[]⟩ : ByteArray),.int .i64 0,.int .i64 0] 26 (0,0)) (Up.Kx BK234) NB234_0.out (by simp));have n1_:=Aside0.mk (Kd.R_mono (Kd.R_keep (IsS70.apart (show IsS70 w0 _ g s0_0 t243 from by repeat (first | (with_reducible first | exact HI0.out | apply IsS70.alloc | apply IsS70.drewN | apply IsS70.drew | apply IsS70.set_1 | refine IsS70.far ?_ NB0_234.out _ | refine IsS70.far ?_ NB0_241.out _) | exact HI0.out)) (by (with_reducible repeat (first | apply Kd.R_alloc | apply Kd.R_drewN | apply Kd.R_drew));exact (Kd.R_mono (Kd.R_far (p:=⟨gb241,1,none⟩) (Kd.R_mono HO237.out (fun k_ hk => (⟨hk,hk.2⟩ : _ ∧ k_ ≠ gb241))) (fun _ hk => hk.2) (.int .i64 t242)) (fun _ h_ => h_.1))) (by decide)) hk (fun _ h => h.2)) (fun _ h => h.1));have n2_:=Aside0.mk (KeepBut.blk hk (g':=gb241) (o:=.cells #[.string ((rd_T26 t235 t238).f0),.int .i64 t242,.int .i64 ((rd_T26 t235 t238).f2)] 26 (0,0)) (Up.Kx BK241) NB241_0.out (by simp));have n3_:=Aside0.mk (KeepBut.trans (by repeat (first | (with_reducible first | exact HK.out | apply KeepBut.set_ | apply keep_drewN | apply keep_drew | apply keep_alloc | refine keep_far ?_ GW234.out _ | refine keep_far ?_ GW241.out _) | exact HK.out)) hk (.inl rfl));have n4_:=Aside0.mk (hb);have n5_:=Aside0.mk (hi);clear BK234 HO237 BK241 HK HB HI0;have BK234:=n0_;have HO237:=n1_;have BK241:=n2_;have HK:=n3_;have HB:=n4_;have HI0:=n5_;clear n0_ n1_ n2_ n3_ n4_ n5_;(try clear hb);(try clear hb2);(try clear hk);(try clear hi);have hcz22_0:=Up.c0 BK241;have hcz22_1:=Up.c1 BK241;have hcz22_2:=Up.c2 BK241;have hfz22_0:=blk_frozen BK241.out 0;have hfz22_1:=blk_frozen BK241.out 1;have hfz22_2:=blk_frozen BK241.out 2;have hnb23:=NB234_0.out;have hnc23:=NB0_234.out;have hcz24_0:=Up.c0 BK234;have hcz24_1:=Up.c1 BK234;have hcz24_2:=Up.c2 BK234;have hfz24_0:=blk_frozen BK234.out 0;have hfz24_1:=blk_frozen BK234.out 1;have hfz24_2:=blk_frozen BK234.out 2))
     refine bodyPost_ret (results_cell_row rfl _ _ gb234 26 #[.string ((rd_T26 t235 t238).f0),.int .i64 t242,.int .i64 t244] (0,0) _ rfl (Up.Kx BK234) Tryd.underlying26 rfl (by kernel_rfl)) rfl ?_
     exact ⟨by first | rfl | (simp [errW_none,errW_some] <;> rfl) | (simp only [← hji7];first | rfl | (simp [errW_none,errW_some] <;> rfl)) | (simp [*,errW_none,errW_some] <;> rfl),by repeat (first | (with_reducible first | exact HI0.out | apply IsS70.alloc | apply IsS70.drewN | apply IsS70.drew | apply IsS70.set_1 | refine IsS70.far ?_ NB0_234.out _ | refine IsS70.far ?_ NB0_241.out _) | exact HI0.out),by repeat (first | (with_reducible first | exact HB.out | apply below_alloc | apply pw_below_drewN | apply below_drew1 | refine below_set ?_ (IsS70.ge HI0.out) | refine below_set ?_ GE234.out | refine below_set ?_ GE241.out) | exact HB.out),by repeat (first | (with_reducible first | exact HK.out | apply KeepBut.set_ | apply keep_drewN | apply keep_drew | apply keep_alloc | refine keep_far ?_ GW234.out _ | refine keep_far ?_ GW241.out _) | exact HK.out)⟩
    ·rw [if_neg c9] at H
     have c9b0 : decide (0 < ((rd_T26 t235 t238).f2)) = false:=decide_eq_false c9
     clear c9
     simp only [Option.some.injEq,Prod.mk.injEq] at H
     obtain ⟨rfl,rfl,rfl,rfl⟩:=H
     go_enter Tryd.func41,Tryd.ntmps41
     go_wp2_with (first | ((with_reducible refine gate_dst (N:=2) rfl ?_);refine Up.bx 2 26 #[.string (⟨#[]⟩ : ByteArray),.int .i64 0,.int .i64 0] ?_;intro gb234 hg w25 hbox hb;have n0_:=Aside0.mk (IsS70.below (Ip0 HI0) hb);have n1_:=Aside0.mk (KeepBut.trans (Up.Kp0 HK) (KeepBut.of_below hb g none) (.inl rfl));have n2_:=Aside0.mk (below_step (Up.Bs HB (IsS70.ge HI0.out)) hb);have n3_:=Aside0.mk (hbox);have n4_:=Aside0.mk ((by rw [hg];exact (keep_size (w:=w) (g:=g) (row:=none) (Up.Kp0 HK)) : w.heap.size ≤ gb234));have n5_:=Aside0.mk ((Nat.le_trans HW0.out (by rw [hg];exact (keep_size (w:=w) (g:=g) (row:=none) (Up.Kp0 HK)) : w.heap.size ≤ gb234) : w0.heap.size ≤ gb234));have n6_:=Aside0.mk ((by rw [hg];exact Nat.ne_of_lt (IsS70.lt (show IsS70 w0 _ g s0_0 s0_1 from by repeat (first | (with_reducible first | exact HI0.out | apply IsS70.alloc | apply IsS70.drewN | apply IsS70.drew | apply IsS70.set_1) | exact HI0.out))) : g ≠ gb234));have n7_:=Aside0.mk ((by rw [hg];exact Nat.ne_of_gt (IsS70.lt (show IsS70 w0 _ g s0_0 s0_1 from by repeat (first | (with_reducible first | exact HI0.out | apply IsS70.alloc | apply IsS70.drewN | apply IsS70.drew | apply IsS70.set_1) | exact HI0.out))) : gb234 ≠ g));clear HI0 HK HB;have HI0:=n0_;have HK:=n1_;have HB:=n2_;have BK234:=n3_;have GW234:=n4_;have GE234:=n5_;have NB0_234:=n6_;have NB234_0:=n7_;clear n0_ n1_ n2_ n3_ n4_ n5_ n6_ n7_ hb hbox hg) | ((with_reducible refine gate_callee (f:=36) rfl ?_);refine Up.gl (some 5) Tryd.func36 #[] ?_;(with_reducible refine (spec_l3Table.calls  t235 _ A2.out).mono ?_);rintro e w26 ⟨v236,rfl,ho0,hb⟩;refine ⟨_,rfl,?_⟩;have n0_:=Aside0.mk (Kd.R_lower (Kd.R_newB ho0 (g:=gb234) (o:=.cells #[.string (⟨#[]⟩ : ByteArray),.int .i64 0,.int .i64 0] 26 (0,0)) (Up.Kup BK234)) (keep_size (w:=w) (g:=g) (row:=none) (Up.Kp HK GW234)));have n1_:=Aside0.mk (IsS70.below (Ip1 HI0 NB0_234) hb);have n2_:=Up.KB BK234 hb;have n3_:=Aside0.mk (KeepBut.trans (Up.Kp HK GW234) (KeepBut.of_below hb g none) (.inl rfl));have n4_:=Aside0.mk (below_step (Up.Bt HB (IsS70.ge HI0.out) GE234) hb);clear HI0 BK234 HK HB;have HO237:=n0_;have HI0:=n1_;have BK234:=n2_;have HK:=n3_;have HB:=n4_;clear n0_ n1_ n2_ n3_ n4_;(try clear hb);(try clear hb2);(try clear hk);(try clear hi);(try clear ho0);obtain ⟨Ao27,co27,eo27⟩:=Kd.R_slice HO237.out;subst eo27) | ((with_reducible refine gate_callee (f:=42) rfl ?_);refine Up.gl (some 10) Tryd.func42 #[.pointer (some ⟨g,0,none⟩),.int .i64 (t235.length : Int)] ?_;(with_reducible refine (spec_l6Rd_pick.calls k g s0_0 s0_1 (t235.length : Int) t238 t239 w0 _ ?side1 ?side2 A3.out).mono ?_);(case side1 => repeat (first | (with_reducible first | exact HI0.out | apply IsS70.alloc | apply IsS70.drewN | apply IsS70.drew | apply IsS70.set_1 | refine IsS70.far ?_ NB0_234.out _) | exact HI0.out));(case side2 => repeat (first | (with_reducible first | exact HB.out | apply below_alloc | apply pw_below_drewN | apply below_drew1 | refine below_set ?_ (IsS70.ge HI0.out) | refine below_set ?_ GE234.out) | exact HB.out));rintro e w28 ⟨rfl,hi,hb,hk⟩;refine ⟨_,rfl,?_⟩;have n0_:=Aside0.mk (KeepBut.blk hk (g':=gb234) (o:=.cells #[.string (⟨#[]⟩ : ByteArray),.int .i64 0,.int .i64 0] 26 (0,0)) (Up.Kup BK234) NB234_0.out (by simp));have n1_:=Aside0.mk (Kd.R_mono (Kd.R_keep (IsS70.apart (show IsS70 w0 _ g s0_0 s0_1 from by repeat (first | (with_reducible first | exact HI0.out | apply IsS70.alloc | apply IsS70.drewN | apply IsS70.drew | apply IsS70.set_1 | refine IsS70.far ?_ NB0_234.out _) | exact HI0.out)) (Up.Rup HO237) (by decide)) hk (fun _ h => h.2)) (fun _ h => h.1));have n2_:=Aside0.mk (KeepBut.trans (Up.Kp HK GW234) hk (.inl rfl));have n3_:=Aside0.mk (hb);have n4_:=Aside0.mk (hi);clear BK234 HO237 HK HB HI0;have BK234:=n0_;have HO237:=n1_;have HK:=n2_;have HB:=n3_;have HI0:=n4_;clear n0_ n1_ n2_ n3_ n4_;(try clear hb);(try clear hb2);(try clear hk);(try clear hi);have p240 : 0 ≤ (t238 : Int):=Up.od;have q240 : t238 < (t235.length : Int):=Up.od;obtain ⟨ad240,e240,hx240_0,hx240_1,hx240_2⟩:=at_T26 (Kd.R_reads' HO237.out).2.2 t238 p240 q240;cases e240;replace p240:=eq_true p240;replace q240:=eq_true q240) | ((with_reducible refine gate_dst (N:=4) rfl ?_);refine Up.bx 4 26 #[.string (⟨#[]⟩ : ByteArray),.int .i64 0,.int .i64 0] ?_;intro gb241 hg w29 hbox hb;have n0_:=Aside0.mk (Kd.R_below (Kd.R_elderB (Up.Rup HO237) gb241 (Nat.le_of_eq hg.symm)) hb);have n1_:=Aside0.mk (IsS70.below (Ip1 HI0 NB0_234) hb);have n2_:=Up.KB BK234 hb;have n3_:=Aside0.mk (KeepBut.trans (Up.Kp HK GW234) (KeepBut.of_below hb g none) (.inl rfl));have n4_:=Aside0.mk (below_step (Up.Bt HB (IsS70.ge HI0.out) GE234) hb);have n5_:=Aside0.mk (hbox);have n6_:=Aside0.mk ((by rw [hg];exact (keep_size (w:=w) (g:=g) (row:=none) (Up.Kp HK GW234)) : w.heap.size ≤ gb241));have n7_:=Aside0.mk ((Nat.le_trans HW0.out (by rw [hg];exact (keep_size (w:=w) (g:=g) (row:=none) (Up.Kp HK GW234)) : w.heap.size ≤ gb241) : w0.heap.size ≤ gb241));have n8_:=Up.nl hg BK234;have n9_:=Up.ng hg BK234;have n10_:=Aside0.mk ((by rw [hg];exact Nat.ne_of_lt (IsS70.lt (show IsS70 w0 _ g s0_0 t239 from by repeat (first | (with_reducible first | exact HI0.out | apply IsS70.alloc | apply IsS70.drewN | apply IsS70.drew | apply IsS70.set_1 | refine IsS70.far ?_ NB0_234.out _) | exact HI0.out))) : g ≠ gb241));have n11_:=Aside0.mk ((by rw [hg];exact Nat.ne_of_gt (IsS70.lt (show IsS70 w0 _ g s0_0 t239 from by repeat (first | (with_reducible first | exact HI0.out | apply IsS70.alloc | apply IsS70.drewN | apply IsS70.drew | apply IsS70.set_1 | refine IsS70.far ?_ NB0_234.out _) | exact HI0.out))) : gb241 ≠ g));clear HO237 HI0 BK234 HK HB;have HO237:=n0_;have HI0:=n1_;have BK234:=n2_;have HK:=n3_;have HB:=n4_;have BK241:=n5_;have GW241:=n6_;have GE241:=n7_;have NB234_241:=n8_;have NB241_234:=n9_;have NB0_241:=n10_;have NB241_0:=n11_;clear n0_ n1_ n2_ n3_ n4_ n5_ n6_ n7_ n8_ n9_ n10_ n11_ hb hbox hg;have hnb30:=NB241_234.out;have hnc30:=NB234_241.out;have hnb31:=NB241_0.out;have hnc31:=NB0_241.out;have hcz32_0:=Up.c0 BK241;have hcz32_1:=Up.c1 BK241;have hcz32_2:=Up.c2 BK241;have hfz32_0:=blk_frozen BK241.out 0;have hfz32_1:=blk_frozen BK241.out 1;have hfz32_2:=blk_frozen BK241.out 2) | ((with_reducible refine gate_callee (f:=42) rfl ?_);refine goesL_ (some 20) rfl rfl Tryd.func42 (by kernel_rfl) rfl #[.pointer (some ⟨g,0,none⟩),.int .i64 ji7] rfl (by (try simp only [List.map_toArray,List.map_cons,List.map_nil]);first | done | (simp only [hji7];rfl) | rfl | (simp only [List.length_drop,List.length_take];rfl)) ?_;(with_reducible refine (spec_l6Rd_pick.calls k g s0_0 t239 ji7 t242 t243 w0 _ ?side1 ?side2 A8.out).mono ?_);(case side1 => repeat (first | (with_reducible first | exact HI0.out | apply IsS70.alloc | apply IsS70.drewN | apply IsS70.drew | apply IsS70.set_1 | refine IsS70.far ?_ NB0_234.out _ | refine IsS70.far ?_ NB0_241.out _) | exact HI0.out));(case side2 => repeat (first | (with_reducible first | exact HB.out | apply below_alloc | apply pw_below_drewN | apply below_drew1 | refine below_set ?_ (IsS70.ge HI0.out) | refine below_set ?_ GE234.out | refine below_set ?_ GE241.out) | exact HB.out));rintro e w33 ⟨rfl,hi,hb,hk⟩;refine ⟨_,rfl,?_⟩;have n0_:=Aside0.mk (KeepBut.blk hk (g':=gb234) (o:=.cells #[.string (⟨#[]⟩ : ByteArray),.int .i64 0,.int .i64 0] 26 (0,0)) (Up.Kx BK234) NB234_0.out (by simp));have n1_:=Aside0.mk (Kd.R_mono (Kd.R_keep (IsS70.apart (show IsS70 w0 _ g s0_0 t239 from by repeat (first | (with_reducible first | exact HI0.out | apply IsS70.alloc | apply IsS70.drewN | apply IsS70.drew | apply IsS70.set_1 | refine IsS70.far ?_ NB0_234.out _ | refine IsS70.far ?_ NB0_241.out _) | exact HI0.out)) (by (with_reducible repeat (first | apply Kd.R_alloc | apply Kd.R_drewN | apply Kd.R_drew));exact (Kd.R_mono (Kd.R_far (p:=⟨gb241,2,none⟩) (Kd.R_far (p:=⟨gb241,1,none⟩) (Kd.R_far (p:=⟨gb241,0,none⟩) (Kd.R_mono HO237.out (fun k_ hk => (⟨hk,hk.2⟩ : _ ∧ k_ ≠ gb241))) (fun _ hk => hk.2) (.string ((rd_T26 t235 t238).f0))) (fun _ hk => hk.2) (.int .i64 ((rd_T26 t235 t238).f1))) (fun _ hk => hk.2) (.int .i64 ((rd_T26 t235 t238).f2))) (fun _ h_ => h_.1))) (by decide)) hk (fun _ h => h.2)) (fun _ h => h.1));have n2_:=Aside0.mk (KeepBut.blk hk (g':=gb241) (o:=.cells #[.string ((rd_T26 t235 t238).f0),.int .i64 ((rd_T26 t235 t238).f1),.int .i64 ((rd_T26 t235 t238).f2)] 26 (0,0)) (Up.Kx BK241) NB241_0.out (by simp));have n3_:=Aside0.mk (KeepBut.trans (by repeat (first | (with_reducible first | exact HK.out | apply KeepBut.set_ | apply keep_drewN | apply keep_drew | apply keep_alloc | refine keep_far ?_ GW234.out _ | refine keep_far ?_ GW241.out _) | exact HK.out)) hk (.inl rfl));have n4_:=Aside0.mk (hb);have n5_:=Aside0.mk (hi);clear BK234 HO237 BK241 HK HB HI0;have BK234:=n0_;have HO237:=n1_;have BK241:=n2_;have HK:=n3_;have HB:=n4_;have HI0:=n5_;clear n0_ n1_ n2_ n3_ n4_ n5_;(try clear hb);(try clear hb2);(try clear hk);(try clear hi);have hcz34_0:=Up.c0 BK241;have hcz34_1:=Up.c1 BK241;have hcz34_2:=Up.c2 BK241;have hfz34_0:=blk_frozen BK241.out 0;have hfz34_1:=blk_frozen BK241.out 1;have hfz34_2:=blk_frozen BK241.out 2;have hnb35:=NB234_0.out;have hnc35:=NB0_234.out;have hcz36_0:=Up.c0 BK234;have hcz36_1:=Up.c1 BK234;have hcz36_2:=Up.c2 BK234;have hfz36_0:=blk_frozen BK234.out 0;have hfz36_1:=blk_frozen BK234.out 1;have hfz36_2:=blk_frozen BK234.out 2))
     refine bodyPost_ret (results_cell_row rfl _ _ gb234 26 #[.string ((rd_T26 t235 t238).f0),.int .i64 t242,.int .i64 ((rd_T26 t235 t238).f2)] (0,0) _ rfl (Up.Kx BK234) Tryd.underlying26 rfl (by kernel_rfl)) rfl ?_
     exact ⟨by first | rfl | (simp [errW_none,errW_some] <;> rfl) | (simp only [← hji7];first | rfl | (simp [errW_none,errW_some] <;> rfl)) | (simp [*,errW_none,errW_some] <;> rfl),by repeat (first | (with_reducible first | exact HI0.out | apply IsS70.alloc | apply IsS70.drewN | apply IsS70.drew | apply IsS70.set_1 | refine IsS70.far ?_ NB0_234.out _ | refine IsS70.far ?_ NB0_241.out _) | exact HI0.out),by repeat (first | (with_reducible first | exact HB.out | apply below_alloc | apply pw_below_drewN | apply below_drew1 | refine below_set ?_ (IsS70.ge HI0.out) | refine below_set ?_ GE234.out | refine below_set ?_ GE241.out) | exact HB.out),by repeat (first | (with_reducible first | exact HK.out | apply KeepBut.set_ | apply keep_drewN | apply keep_drew | apply keep_alloc | refine keep_far ?_ GW234.out _ | refine keep_far ?_ GW241.out _) | exact HK.out)⟩
   ·rw [if_neg c6] at H
    have c6b0 : decide (0 < ((rd_T26 t235 t238).f1)) = false:=decide_eq_false c6
    clear c6
    by_cases c37 : ((rd_T26 t235 t238).f2) > 0
    ·rw [if_pos c37] at H
     have c37b0 : decide (0 < ((rd_T26 t235 t238).f2)) = true:=decide_eq_true c37
     clear c37
     replace H:=Option.bind_eq_some_iff.mp H
     obtain ⟨⟨t246,t247⟩,A380,H⟩:=H
     replace H : (some ((rd_T26 t235 t238).f0,(rd_T26 t235 t238).f1,t246,t247)) = some (r1,r2,r3,r4):=H
     have A38:=Aside0.mk A380
     clear A380
     simp only [Option.some.injEq,Prod.mk.injEq] at H
     obtain ⟨rfl,rfl,rfl,rfl⟩:=H
     go_enter Tryd.func41,Tryd.ntmps41
     go_wp2_with (first | ((with_reducible refine gate_dst (N:=2) rfl ?_);refine Up.bx 2 26 #[.string (⟨#[]⟩ : ByteArray),.int .i64 0,.int .i64 0] ?_;intro gb234 hg w39 hbox hb;have n0_:=Aside0.mk (IsS70.below (Ip0 HI0) hb);have n1_:=Aside0.mk (KeepBut.trans (Up.Kp0 HK) (KeepBut.of_below hb g none) (.inl rfl));have n2_:=Aside0.mk (below_step (Up.Bs HB (IsS70.ge HI0.out)) hb);have n3_:=Aside0.mk (hbox);have n4_:=Aside0.mk ((by rw [hg];exact (keep_size (w:=w) (g:=g) (row:=none) (Up.Kp0 HK)) : w.heap.size ≤ gb234));have n5_:=Aside0.mk ((Nat.le_trans HW0.out (by rw [hg];exact (keep_size (w:=w) (g:=g) (row:=none) (Up.Kp0 HK)) : w.heap.size ≤ gb234) : w0.heap.size ≤ gb234));have n6_:=Aside0.mk ((by rw [hg];exact Nat.ne_of_lt (IsS70.lt (show IsS70 w0 _ g s0_0 s0_1 from by repeat (first | (with_reducible first | exact HI0.out | apply IsS70.alloc | apply IsS70.drewN | apply IsS70.drew | apply IsS70.set_1) | exact HI0.out))) : g ≠ gb234));have n7_:=Aside0.mk ((by rw [hg];exact Nat.ne_of_gt (IsS70.lt (show IsS70 w0 _ g s0_0 s0_1 from by repeat (first | (with_reducible first | exact HI0.out | apply IsS70.alloc | apply IsS70.drewN | apply IsS70.drew | apply IsS70.set_1) | exact HI0.out))) : gb234 ≠ g));clear HI0 HK HB;have HI0:=n0_;have HK:=n1_;have HB:=n2_;have BK234:=n3_;have GW234:=n4_;have GE234:=n5_;have NB0_234:=n6_;have NB234_0:=n7_;clear n0_ n1_ n2_ n3_ n4_ n5_ n6_ n7_ hb hbox hg) | ((with_reducible refine gate_callee (f:=36) rfl ?_);refine Up.gl (some 5) Tryd.func36 #[] ?_;(with_reducible refine (spec_l3Table.calls  t235 _ A2.out).mono ?_);rintro e w40 ⟨v236,rfl,ho0,hb⟩;refine ⟨_,rfl,?_⟩;have n0_:=Aside0.mk (Kd.R_lower (Kd.R_newB ho0 (g:=gb234) (o:=.cells #[.string (⟨#[]⟩ : ByteArray),.int .i64 0,.int .i64 0] 26 (0,0)) (Up.Kup BK234)) (keep_size (w:=w) (g:=g) (row:=none) (Up.Kp HK GW234)));have n1_:=Aside0.mk (IsS70.below (Ip1 HI0 NB0_234) hb);have n2_:=Up.KB BK234 hb;have n3_:=Aside0.mk (KeepBut.trans (Up.Kp HK GW234) (KeepBut.of_below hb g none) (.inl rfl));have n4_:=Aside0.mk (below_step (Up.Bt HB (IsS70.ge HI0.out) GE234) hb);clear HI0 BK234 HK HB;have HO237:=n0_;have HI0:=n1_;have BK234:=n2_;have HK:=n3_;have HB:=n4_;clear n0_ n1_ n2_ n3_ n4_;(try clear hb);(try clear hb2);(try clear hk);(try clear hi);(try clear ho0);obtain ⟨Ao41,co41,eo41⟩:=Kd.R_slice HO237.out;subst eo41) | ((with_reducible refine gate_callee (f:=42) rfl ?_);refine Up.gl (some 10) Tryd.func42 #[.pointer (some ⟨g,0,none⟩),.int .i64 (t235.length : Int)] ?_;(with_reducible refine (spec_l6Rd_pick.calls k g s0_0 s0_1 (t235.length : Int) t238 t239 w0 _ ?side1 ?side2 A3.out).mono ?_);(case side1 => repeat (first | (with_reducible first | exact HI0.out | apply IsS70.alloc | apply IsS70.drewN | apply IsS70.drew | apply IsS70.set_1 | refine IsS70.far ?_ NB0_234.out _) | exact HI0.out));(case side2 => repeat (first | (with_reducible first | exact HB.out | apply below_alloc | apply pw_below_drewN | apply below_drew1 | refine below_set ?_ (IsS70.ge HI0.out) | refine below_set ?_ GE234.out) | exact HB.out));rintro e w42 ⟨rfl,hi,hb,hk⟩;refine ⟨_,rfl,?_⟩;have n0_:=Aside0.mk (KeepBut.blk hk (g':=gb234) (o:=.cells #[.string (⟨#[]⟩ : ByteArray),.int .i64 0,.int .i64 0] 26 (0,0)) (Up.Kup BK234) NB234_0.out (by simp));have n1_:=Aside0.mk (Kd.R_mono (Kd.R_keep (IsS70.apart (show IsS70 w0 _ g s0_0 s0_1 from by repeat (first | (with_reducible first | exact HI0.out | apply IsS70.alloc | apply IsS70.drewN | apply IsS70.drew | apply IsS70.set_1 | refine IsS70.far ?_ NB0_234.out _) | exact HI0.out)) (Up.Rup HO237) (by decide)) hk (fun _ h => h.2)) (fun _ h => h.1));have n2_:=Aside0.mk (KeepBut.trans (Up.Kp HK GW234) hk (.inl rfl));have n3_:=Aside0.mk (hb);have n4_:=Aside0.mk (hi);clear BK234 HO237 HK HB HI0;have BK234:=n0_;have HO237:=n1_;have HK:=n2_;have HB:=n3_;have HI0:=n4_;clear n0_ n1_ n2_ n3_ n4_;(try clear hb);(try clear hb2);(try clear hk);(try clear hi);have p240 : 0 ≤ (t238 : Int):=Up.od;have q240 : t238 < (t235.length : Int):=Up.od;obtain ⟨ad240,e240,hx240_0,hx240_1,hx240_2⟩:=at_T26 (Kd.R_reads' HO237.out).2.2 t238 p240 q240;cases e240;replace p240:=eq_true p240;replace q240:=eq_true q240) | ((with_reducible refine gate_dst (N:=4) rfl ?_);refine Up.bx 4 26 #[.string (⟨#[]⟩ : ByteArray),.int .i64 0,.int .i64 0] ?_;intro gb241 hg w43 hbox hb;have n0_:=Aside0.mk (Kd.R_below (Kd.R_elderB (Up.Rup HO237) gb241 (Nat.le_of_eq hg.symm)) hb);have n1_:=Aside0.mk (IsS70.below (Ip1 HI0 NB0_234) hb);have n2_:=Up.KB BK234 hb;have n3_:=Aside0.mk (KeepBut.trans (Up.Kp HK GW234) (KeepBut.of_below hb g none) (.inl rfl));have n4_:=Aside0.mk (below_step (Up.Bt HB (IsS70.ge HI0.out) GE234) hb);have n5_:=Aside0.mk (hbox);have n6_:=Aside0.mk ((by rw [hg];exact (keep_size (w:=w) (g:=g) (row:=none) (Up.Kp HK GW234)) : w.heap.size ≤ gb241));have n7_:=Aside0.mk ((Nat.le_trans HW0.out (by rw [hg];exact (keep_size (w:=w) (g:=g) (row:=none) (Up.Kp HK GW234)) : w.heap.size ≤ gb241) : w0.heap.size ≤ gb241));have n8_:=Up.nl hg BK234;have n9_:=Up.ng hg BK234;have n10_:=Aside0.mk ((by rw [hg];exact Nat.ne_of_lt (IsS70.lt (show IsS70 w0 _ g s0_0 t239 from by repeat (first | (with_reducible first | exact HI0.out | apply IsS70.alloc | apply IsS70.drewN | apply IsS70.drew | apply IsS70.set_1 | refine IsS70.far ?_ NB0_234.out _) | exact HI0.out))) : g ≠ gb241));have n11_:=Aside0.mk ((by rw [hg];exact Nat.ne_of_gt (IsS70.lt (show IsS70 w0 _ g s0_0 t239 from by repeat (first | (with_reducible first | exact HI0.out | apply IsS70.alloc | apply IsS70.drewN | apply IsS70.drew | apply IsS70.set_1 | refine IsS70.far ?_ NB0_234.out _) | exact HI0.out))) : gb241 ≠ g));clear HO237 HI0 BK234 HK HB;have HO237:=n0_;have HI0:=n1_;have BK234:=n2_;have HK:=n3_;have HB:=n4_;have BK241:=n5_;have GW241:=n6_;have GE241:=n7_;have NB234_241:=n8_;have NB241_234:=n9_;have NB0_241:=n10_;have NB241_0:=n11_;clear n0_ n1_ n2_ n3_ n4_ n5_ n6_ n7_ n8_ n9_ n10_ n11_ hb hbox hg;have hnb44:=NB241_234.out;have hnc44:=NB234_241.out;have hnb45:=NB241_0.out;have hnc45:=NB0_241.out;have hcz46_0:=Up.c0 BK241;have hcz46_1:=Up.c1 BK241;have hcz46_2:=Up.c2 BK241;have hfz46_0:=blk_frozen BK241.out 0;have hfz46_1:=blk_frozen BK241.out 1;have hfz46_2:=blk_frozen BK241.out 2) | ((with_reducible refine gate_callee (f:=42) rfl ?_);refine Up.gl (some 28) Tryd.func42 #[.pointer (some ⟨g,0,none⟩),.int .i64 ((rd_T26 t235 t238).f2)] ?_;(with_reducible refine (spec_l6Rd_pick.calls k g s0_0 t239 ((rd_T26 t235 t238).f2) t246 t247 w0 _ ?side1 ?side2 A38.out).mono ?_);(case side1 => repeat (first | (with_reducible first | exact HI0.out | apply IsS70.alloc | apply IsS70.drewN | apply IsS70.drew | apply IsS70.set_1 | refine IsS70.far ?_ NB0_234.out _ | refine IsS70.far ?_ NB0_241.out _) | exact HI0.out));(case side2 => repeat (first | (with_reducible first | exact HB.out | apply below_alloc | apply pw_below_drewN | apply below_drew1 | refine below_set ?_ (IsS70.ge HI0.out) | refine below_set ?_ GE234.out | refine below_set ?_ GE241.out) | exact HB.out));rintro e w47 ⟨rfl,hi,hb,hk⟩;refine ⟨_,rfl,?_⟩;have n0_:=Aside0.mk (KeepBut.blk hk (g':=gb234) (o:=.cells #[.string (⟨#[]⟩ : ByteArray),.int .i64 0,.int .i64 0] 26 (0,0)) (Up.Kx BK234) NB234_0.out (by simp));have n1_:=Aside0.mk (Kd.R_mono (Kd.R_keep (IsS70.apart (show IsS70 w0 _ g s0_0 t239 from by repeat (first | (with_reducible first | exact HI0.out | apply IsS70.alloc | apply IsS70.drewN | apply IsS70.drew | apply IsS70.set_1 | refine IsS70.far ?_ NB0_234.out _ | refine IsS70.far ?_ NB0_241.out _) | exact HI0.out)) (by (with_reducible repeat (first | apply Kd.R_alloc | apply Kd.R_drewN | apply Kd.R_drew));exact (Kd.R_mono (Kd.R_far (p:=⟨gb241,2,none⟩) (Kd.R_far (p:=⟨gb241,1,none⟩) (Kd.R_far (p:=⟨gb241,0,none⟩) (Kd.R_mono HO237.out (fun k_ hk => (⟨hk,hk.2⟩ : _ ∧ k_ ≠ gb241))) (fun _ hk => hk.2) (.string ((rd_T26 t235 t238).f0))) (fun _ hk => hk.2) (.int .i64 ((rd_T26 t235 t238).f1))) (fun _ hk => hk.2) (.int .i64 ((rd_T26 t235 t238).f2))) (fun _ h_ => h_.1))) (by decide)) hk (fun _ h => h.2)) (fun _ h => h.1));have n2_:=Aside0.mk (KeepBut.blk hk (g':=gb241) (o:=.cells #[.string ((rd_T26 t235 t238).f0),.int .i64 ((rd_T26 t235 t238).f1),.int .i64 ((rd_T26 t235 t238).f2)] 26 (0,0)) (Up.Kx BK241) NB241_0.out (by simp));have n3_:=Aside0.mk (KeepBut.trans (by repeat (first | (with_reducible first | exact HK.out | apply KeepBut.set_ | apply keep_drewN | apply keep_drew | apply keep_alloc | refine keep_far ?_ GW234.out _ | refine keep_far ?_ GW241.out _) | exact HK.out)) hk (.inl rfl));have n4_:=Aside0.mk (hb);have n5_:=Aside0.mk (hi);clear BK234 HO237 BK241 HK HB HI0;have BK234:=n0_;have HO237:=n1_;have BK241:=n2_;have HK:=n3_;have HB:=n4_;have HI0:=n5_;clear n0_ n1_ n2_ n3_ n4_ n5_;(try clear hb);(try clear hb2);(try clear hk);(try clear hi);have hcz48_0:=Up.c0 BK241;have hcz48_1:=Up.c1 BK241;have hcz48_2:=Up.c2 BK241;have hfz48_0:=blk_frozen BK241.out 0;have hfz48_1:=blk_frozen BK241.out 1;have hfz48_2:=blk_frozen BK241.out 2;have hnb49:=NB234_0.out;have hnc49:=NB0_234.out;have hcz50_0:=Up.c0 BK234;have hcz50_1:=Up.c1 BK234;have hcz50_2:=Up.c2 BK234;have hfz50_0:=blk_frozen BK234.out 0;have hfz50_1:=blk_frozen BK234.out 1;have hfz50_2:=blk_frozen BK234.out 2))
     refine bodyPost_ret (results_cell_row rfl _ _ gb234 26 #[.string ((rd_T26 t235 t238).f0),.int .i64 ((rd_T26 t235 t238).f1),.int .i64 t246] (0,0) _ rfl (Up.Kx BK234) Tryd.underlying26 rfl (by kernel_rfl)) rfl ?_
     exact ⟨by first | rfl | (simp [errW_none,errW_some] <;> rfl) | (simp [*,errW_none,errW_some] <;> rfl),by repeat (first | (with_reducible first | exact HI0.out | apply IsS70.alloc | apply IsS70.drewN | apply IsS70.drew | apply IsS70.set_1 | refine IsS70.far ?_ NB0_234.out _ | refine IsS70.far ?_ NB0_241.out _) | exact HI0.out),by repeat (first | (with_reducible first | exact HB.out | apply below_alloc | apply pw_below_drewN | apply below_drew1 | refine below_set ?_ (IsS70.ge HI0.out) | refine below_set ?_ GE234.out | refine below_set ?_ GE241.out) | exact HB.out),by repeat (first | (with_reducible first | exact HK.out | apply KeepBut.set_ | apply keep_drewN | apply keep_drew | apply keep_alloc | refine keep_far ?_ GW234.out _ | refine keep_far ?_ GW241.out _) | exact HK.out)⟩
    ·rw [if_neg c37] at H
     have c37b0 : decide (0 < ((rd_T26 t235 t238).f2)) = false:=decide_eq_false c37
     clear c37
     simp only [Option.some.injEq,Prod.mk.injEq] at H
     obtain ⟨rfl,rfl,rfl,rfl⟩:=H
     go_enter Tryd.func41,Tryd.ntmps41
     go_wp2_with (first | ((with_reducible refine gate_dst (N:=2) rfl ?_);refine Up.bx 2 26 #[.string (⟨#[]⟩ : ByteArray),.int .i64 0,.int .i64 0] ?_;intro gb234 hg w51 hbox hb;have n0_:=Aside0.mk (IsS70.below (Ip0 HI0) hb);have n1_:=Aside0.mk (KeepBut.trans (Up.Kp0 HK) (KeepBut.of_below hb g none) (.inl rfl));have n2_:=Aside0.mk (below_step (Up.Bs HB (IsS70.ge HI0.out)) hb);have n3_:=Aside0.mk (hbox);have n4_:=Aside0.mk ((by rw [hg];exact (keep_size (w:=w) (g:=g) (row:=none) (Up.Kp0 HK)) : w.heap.size ≤ gb234));have n5_:=Aside0.mk ((Nat.le_trans HW0.out (by rw [hg];exact (keep_size (w:=w) (g:=g) (row:=none) (Up.Kp0 HK)) : w.heap.size ≤ gb234) : w0.heap.size ≤ gb234));have n6_:=Aside0.mk ((by rw [hg];exact Nat.ne_of_lt (IsS70.lt (show IsS70 w0 _ g s0_0 s0_1 from by repeat (first | (with_reducible first | exact HI0.out | apply IsS70.alloc | apply IsS70.drewN | apply IsS70.drew | apply IsS70.set_1) | exact HI0.out))) : g ≠ gb234));have n7_:=Aside0.mk ((by rw [hg];exact Nat.ne_of_gt (IsS70.lt (show IsS70 w0 _ g s0_0 s0_1 from by repeat (first | (with_reducible first | exact HI0.out | apply IsS70.alloc | apply IsS70.drewN | apply IsS70.drew | apply IsS70.set_1) | exact HI0.out))) : gb234 ≠ g));clear HI0 HK HB;have HI0:=n0_;have HK:=n1_;have HB:=n2_;have BK234:=n3_;have GW234:=n4_;have GE234:=n5_;have NB0_234:=n6_;have NB234_0:=n7_;clear n0_ n1_ n2_ n3_ n4_ n5_ n6_ n7_ hb hbox hg) | ((with_reducible refine gate_callee (f:=36) rfl ?_);refine Up.gl (some 5) Tryd.func36 #[] ?_;(with_reducible refine (spec_l3Table.calls  t235 _ A2.out).mono ?_);rintro e w52 ⟨v236,rfl,ho0,hb⟩;refine ⟨_,rfl,?_⟩;have n0_:=Aside0.mk (Kd.R_lower (Kd.R_newB ho0 (g:=gb234) (o:=.cells #[.string (⟨#[]⟩ : ByteArray),.int .i64 0,.int .i64 0] 26 (0,0)) (Up.Kup BK234)) (keep_size (w:=w) (g:=g) (row:=none) (Up.Kp HK GW234)));have n1_:=Aside0.mk (IsS70.below (Ip1 HI0 NB0_234) hb);have n2_:=Up.KB BK234 hb;have n3_:=Aside0.mk (KeepBut.trans (Up.Kp HK GW234) (KeepBut.of_below hb g none) (.inl rfl));have n4_:=Aside0.mk (below_step (Up.Bt HB (IsS70.ge HI0.out) GE234) hb);clear HI0 BK234 HK HB;have HO237:=n0_;have HI0:=n1_;have BK234:=n2_;have HK:=n3_;have HB:=n4_;clear n0_ n1_ n2_ n3_ n4_;(try clear hb);(try clear hb2);(try clear hk);(try clear hi);(try clear ho0);obtain ⟨Ao53,co53,eo53⟩:=Kd.R_slice HO237.out;subst eo53) | ((with_reducible refine gate_callee (f:=42) rfl ?_);refine Up.gl (some 10) Tryd.func42 #[.pointer (some ⟨g,0,none⟩),.int .i64 (t235.length : Int)] ?_;(with_reducible refine (spec_l6Rd_pick.calls k g s0_0 s0_1 (t235.length : Int) t238 t239 w0 _ ?side1 ?side2 A3.out).mono ?_);(case side1 => repeat (first | (with_reducible first | exact HI0.out | apply IsS70.alloc | apply IsS70.drewN | apply IsS70.drew | apply IsS70.set_1 | refine IsS70.far ?_ NB0_234.out _) | exact HI0.out));(case side2 => repeat (first | (with_reducible first | exact HB.out | apply below_alloc | apply pw_below_drewN | apply below_drew1 | refine below_set ?_ (IsS70.ge HI0.out) | refine below_set ?_ GE234.out) | exact HB.out));rintro e w54 ⟨rfl,hi,hb,hk⟩;refine ⟨_,rfl,?_⟩;have n0_:=Aside0.mk (KeepBut.blk hk (g':=gb234) (o:=.cells #[.string (⟨#[]⟩ : ByteArray),.int .i64 0,.int .i64 0] 26 (0,0)) (Up.Kup BK234) NB234_0.out (by simp));have n1_:=Aside0.mk (Kd.R_mono (Kd.R_keep (IsS70.apart (show IsS70 w0 _ g s0_0 s0_1 from by repeat (first | (with_reducible first | exact HI0.out | apply IsS70.alloc | apply IsS70.drewN | apply IsS70.drew | apply IsS70.set_1 | refine IsS70.far ?_ NB0_234.out _) | exact HI0.out)) (Up.Rup HO237) (by decide)) hk (fun _ h => h.2)) (fun _ h => h.1));have n2_:=Aside0.mk (KeepBut.trans (Up.Kp HK GW234) hk (.inl rfl));have n3_:=Aside0.mk (hb);have n4_:=Aside0.mk (hi);clear BK234 HO237 HK HB HI0;have BK234:=n0_;have HO237:=n1_;have HK:=n2_;have HB:=n3_;have HI0:=n4_;clear n0_ n1_ n2_ n3_ n4_;(try clear hb);(try clear hb2);(try clear hk);(try clear hi);have p240 : 0 ≤ (t238 : Int):=Up.od;have q240 : t238 < (t235.length : Int):=Up.od;obtain ⟨ad240,e240,hx240_0,hx240_1,hx240_2⟩:=at_T26 (Kd.R_reads' HO237.out).2.2 t238 p240 q240;cases e240;replace p240:=eq_true p240;replace q240:=eq_true q240) | ((with_reducible refine gate_dst (N:=4) rfl ?_);refine Up.bx 4 26 #[.string (⟨#[]⟩ : ByteArray),.int .i64 0,.int .i64 0] ?_;intro gb241 hg w55 hbox hb;have n0_:=Aside0.mk (Kd.R_below (Kd.R_elderB (Up.Rup HO237) gb241 (Nat.le_of_eq hg.symm)) hb);have n1_:=Aside0.mk (IsS70.below (Ip1 HI0 NB0_234) hb);have n2_:=Up.KB BK234 hb;have n3_:=Aside0.mk (KeepBut.trans (Up.Kp HK GW234) (KeepBut.of_below hb g none) (.inl rfl));have n4_:=Aside0.mk (below_step (Up.Bt HB (IsS70.ge HI0.out) GE234) hb);have n5_:=Aside0.mk (hbox);have n6_:=Aside0.mk ((by rw [hg];exact (keep_size (w:=w) (g:=g) (row:=none) (Up.Kp HK GW234)) : w.heap.size ≤ gb241));have n7_:=Aside0.mk ((Nat.le_trans HW0.out (by rw [hg];exact (keep_size (w:=w) (g:=g) (row:=none) (Up.Kp HK GW234)) : w.heap.size ≤ gb241) : w0.heap.size ≤ gb241));have n8_:=Up.nl hg BK234;have n9_:=Up.ng hg BK234;have n10_:=Aside0.mk ((by rw [hg];exact Nat.ne_of_lt (IsS70.lt (show IsS70 w0 _ g s0_0 t239 from by repeat (first | (with_reducible first | exact HI0.out | apply IsS70.alloc | apply IsS70.drewN | apply IsS70.drew | apply IsS70.set_1 | refine IsS70.far ?_ NB0_234.out _) | exact HI0.out))) : g ≠ gb241));have n11_:=Aside0.mk ((by rw [hg];exact Nat.ne_of_gt (IsS70.lt (show IsS70 w0 _ g s0_0 t239 from by repeat (first | (with_reducible first | exact HI0.out | apply IsS70.alloc | apply IsS70.drewN | apply IsS70.drew | apply IsS70.set_1 | refine IsS70.far ?_ NB0_234.out _) | exact HI0.out))) : gb241 ≠ g));clear HO237 HI0 BK234 HK HB;have HO237:=n0_;have HI0:=n1_;have BK234:=n2_;have HK:=n3_;have HB:=n4_;have BK241:=n5_;have GW241:=n6_;have GE241:=n7_;have NB234_241:=n8_;have NB241_234:=n9_;have NB0_241:=n10_;have NB241_0:=n11_;clear n0_ n1_ n2_ n3_ n4_ n5_ n6_ n7_ n8_ n9_ n10_ n11_ hb hbox hg;have hnb56:=NB241_234.out;have hnc56:=NB234_241.out;have hnb57:=NB241_0.out;have hnc57:=NB0_241.out;have hcz58_0:=Up.c0 BK241;have hcz58_1:=Up.c1 BK241;have hcz58_2:=Up.c2 BK241;have hfz58_0:=blk_frozen BK241.out 0;have hfz58_1:=blk_frozen BK241.out 1;have hfz58_2:=blk_frozen BK241.out 2;have hnb59:=NB234_0.out;have hnc59:=NB0_234.out;have hcz60_0:=Up.c0 BK234;have hcz60_1:=Up.c1 BK234;have hcz60_2:=Up.c2 BK234;have hfz60_0:=blk_frozen BK234.out 0;have hfz60_1:=blk_frozen BK234.out 1;have hfz60_2:=blk_frozen BK234.out 2))
     refine bodyPost_ret (results_cell_row rfl _ _ gb234 26 #[.string ((rd_T26 t235 t238).f0),.int .i64 ((rd_T26 t235 t238).f1),.int .i64 ((rd_T26 t235 t238).f2)] (0,0) _ rfl (Up.Kx BK234) Tryd.underlying26 rfl (by kernel_rfl)) rfl ?_
     exact ⟨by first | rfl | (simp [errW_none,errW_some] <;> rfl) | (simp [*,errW_none,errW_some] <;> rfl),by repeat (first | (with_reducible first | exact HI0.out | apply IsS70.alloc | apply IsS70.drewN | apply IsS70.drew | apply IsS70.set_1 | refine IsS70.far ?_ NB0_234.out _ | refine IsS70.far ?_ NB0_241.out _) | exact HI0.out),by repeat (first | (with_reducible first | exact HB.out | apply below_alloc | apply pw_below_drewN | apply below_drew1 | refine below_set ?_ (IsS70.ge HI0.out) | refine below_set ?_ GE234.out | refine below_set ?_ GE241.out) | exact HB.out),by repeat (first | (with_reducible first | exact HK.out | apply KeepBut.set_ | apply keep_drewN | apply keep_drew | apply keep_alloc | refine keep_far ?_ GW234.out _ | refine keep_far ?_ GW241.out _) | exact HK.out)⟩
  ·rw [if_neg c5] at H
   exact absurd H (by simp)
 ·rw [if_neg c4] at H
  exact absurd H (by simp)

/-! ### spec_l91Num: function 43 -/
def spec_l91Num.f (k : Nat) (s0_0 : List Int) (s0_1 : Int) (l1 : List Int) : Option (Int × Int):=(spec_l6Rd_pick.f k s0_0 s0_1 (l1.length : Int)).bind fun bt248 => (if 0 ≤ bt248.1 then (if bt248.1 < (l1.length : Int) then (some (rd l1 bt248.1,bt248.2)) else (none)) else (none))
theorem spec_l91Num.mono : ∀ a0 a1 a2 k,LeO (spec_l91Num.f k a0 a1 a2) (spec_l91Num.f (k + 1) a0 a1 a2):=by
 intro a0 a1 a2 k
 unfold spec_l91Num.f
 repeat' first
   | (with_reducible exact spec_l6Rd_pick.mono _ _ _ _)
   | (with_reducible exact LeO.refl _)
   | (with_reducible exact LeO.none _)
   | (with_reducible refine LeO.ite ?_ ?_)
   | (with_reducible refine LeO.bind ?_ (fun _ => ?_))
   | exact spec_l6Rd_pick.mono _ _ _ _
   | exact LeO.none _
   | refine LeO.ite ?_ ?_
   | refine LeO.bind ?_ (fun _ => ?_)
set_option maxHeartbeats 8000000 in
set_option maxRecDepth 100000 in
theorem spec_l91Num.calls (k : Nat) (g : Nat) (s0_0 : List Int) (s0_1 : Int) (A1 : Option Addr) (c1 : Nat) (l1 : List Int) (r1 : Int) (r2 : Int) (w0 w : World) (hI : IsS70 w0 w g s0_0 s0_1) (hB : Below w0.heap.size w0 w) (hr1 : Kd.C (Kd.int .i64) w A1 l1.length l1) (hc1 : l1.length ≤ c1) (hf1 : ∀ ad,A1 = some ad → 0 < l1.length → ad.block ≠ g) (h : spec_l91Num.f k s0_0 s0_1 l1 = some (r1,r2)) :
  Calls Tryd.prog 43 #[.pointer (some ⟨g,0,none⟩),.slice A1 l1.length c1] w fun e w' => e = .returned (.int .i64 r1) ∧ IsS70 w0 w' g s0_0 r2 ∧ Below w0.heap.size w0 w' ∧ KeepBut w w' g none:=by
 have HR1:=Aside0.mk hr1
 have HC1:=Aside0.mk hc1
 clear hr1 hc1
 have HI0:=Aside0.mk hI
 have HK:=Aside0.mk (KeepBut.refl w g none)
 have HL:=Aside0.mk hB.size
 clear hI
 have HW0:=Aside0.mk hB.size
 have HB:=Aside0.mk hB
 clear hB
 have H : ((spec_l6Rd_pick.f k s0_0 s0_1 (l1.length : Int)).bind fun bt248 => (if 0 ≤ bt248.1 then (if bt248.1 < (l1.length : Int) then (some (rd l1 bt248.1,bt248.2)) else (none)) else (none))) = some (r1,r2):=h
 clear h
 replace H:=Option.bind_eq_some_iff.mp H
 obtain ⟨⟨t248,t249⟩,A30,H⟩:=H
 replace H : (if 0 ≤ t248 then (if t248 < (l1.length : Int) then (some (rd l1 t248,t249)) else (none)) else (none)) = some (r1,r2):=H
 have A3:=Aside0.mk A30
 clear A30
 by_cases c4 : 0 ≤ t248
 ·rw [if_pos c4] at H
  have c4b0 : decide (0 ≤ t248) = true:=decide_eq_true c4
  clear c4
  by_cases c5 : t248 < (l1.length : Int)
  ·rw [if_pos c5] at H
   have c5b0 : decide (t248 < (l1.length : Int)) = true:=decide_eq_true c5
   clear c5
   simp only [Option.some.injEq,Prod.mk.injEq] at H
   obtain ⟨rfl,rfl⟩:=H
   go_enter Tryd.func43,Tryd.ntmps43
   go_wp2_with (first | ((with_reducible refine gate_callee (f:=42) rfl ?_);refine Up.gl (some 9) Tryd.func42 #[.pointer (some ⟨g,0,none⟩),.int .i64 (l1.length : Int)] ?_;(with_reducible refine (spec_l6Rd_pick.calls k g s0_0 s0_1 (l1.length : Int) t248 t249 w0 _ ?side1 ?side2 A3.out).mono ?_);(case side1 => repeat (first | (with_reducible first | exact HI0.out | apply IsS70.alloc | apply IsS70.drewN | apply IsS70.drew | apply IsS70.set_1) | exact HI0.out));(case side2 => repeat (first | (with_reducible first | exact HB.out | apply below_alloc | apply pw_below_drewN | apply below_drew1 | refine below_set ?_ (IsS70.ge HI0.out)) | exact HB.out));rintro e w6 ⟨rfl,hi,hb,hk⟩;refine ⟨_,rfl,?_⟩;have n0_:=Aside0.mk (KeepBut.trans (Up.Kp0 HK) hk (.inl rfl));have n1_:=Aside0.mk (hb);have n2_:=Aside0.mk (hi);clear HK HB HI0;have HK:=n0_;have HB:=n1_;have HI0:=n2_;clear n0_ n1_ n2_;(try clear hb);(try clear hb2);(try clear hk);(try clear hi);have p250 : 0 ≤ (t248 : Int):=Up.od;have q250 : t248 < (l1.length : Int):=Up.od;obtain ⟨ad250,e250,hx250_0⟩:=Kd.at_int HR1.out t248 p250 q250;cases e250;replace hx250_0:=keep_cell HK.out hx250_0 (by first | (rw [add_block];exact hf1 _ rfl (by omega)) | exact hf1 _ rfl (by omega) | exact hf1 ad250 rfl (by omega));replace p250:=eq_true p250;replace q250:=eq_true q250))
   go_ret
   exact ⟨by first | rfl | (simp [errW_none,errW_some] <;> rfl) | (simp [*,errW_none,errW_some] <;> rfl),by repeat (first | (with_reducible first | exact HI0.out | apply IsS70.alloc | apply IsS70.drewN | apply IsS70.drew | apply IsS70.set_1) | exact HI0.out),by repeat (first | (with_reducible first | exact HB.out | apply below_alloc | apply pw_below_drewN | apply below_drew1 | refine below_set ?_ (IsS70.ge HI0.out)) | exact HB.out),by repeat (first | (with_reducible first | exact HK.out | apply KeepBut.set_ | apply keep_drewN | apply keep_drew | apply keep_alloc) | exact HK.out)⟩
  ·rw [if_neg c5] at H
   exact absurd H (by simp)
 ·rw [if_neg c4] at H
  exact absurd H (by simp)

/-! ### spec_DrawInsText: function 28 -/
def spec_DrawInsText.f (k : Nat) (l0 : List Int) : Option (ByteArray × Int × Int):=(spec_l6Open.f l0).bind fun bt252 => ((spec_l91Ins.f k bt252.1 bt252.2).bind fun bt255 => ((spec_l6Rd_pick.f k bt252.1 bt255.2.2.2 5).bind fun bt260 => (if bt260.1 = 0 then ((spec_l91Num.f k bt252.1 bt260.2 (([(-1),3,40,1000000] : List Int))).bind fun bt265 => (some (bt255.1,bt265.1,bt255.2.2.1))) else (some (bt255.1,bt255.2.1,bt255.2.2.1)))))
theorem spec_DrawInsText.mono : ∀ a0 k,LeO (spec_DrawInsText.f k a0) (spec_DrawInsText.f (k + 1) a0):=by
 intro a0 k
 unfold spec_DrawInsText.f
 repeat' first
   | (with_reducible exact spec_l6Rd_pick.mono _ _ _ _)
   | (with_reducible exact spec_l91Ins.mono _ _ _)
   | (with_reducible exact spec_l91Num.mono _ _ _ _)
   | (with_reducible exact LeO.refl _)
   | (with_reducible exact LeO.none _)
   | (with_reducible refine LeO.ite ?_ ?_)
   | (with_reducible refine LeO.bind ?_ (fun _ => ?_))
   | exact spec_l6Rd_pick.mono _ _ _ _
   | exact spec_l91Ins.mono _ _ _
   | exact spec_l91Num.mono _ _ _ _
   | exact LeO.none _
   | refine LeO.ite ?_ ?_
   | refine LeO.bind ?_ (fun _ => ?_)
set_option maxHeartbeats 8000000 in
set_option maxRecDepth 100000 in
theorem spec_DrawInsText.calls (k : Nat) (A0 : Option Addr) (c0 : Nat) (l0 : List Int) (r1 : ByteArray) (r2 : Int) (r3 : Int) (w : World) (hr0 : Kd.C (Kd.int .u8) w A0 l0.length l0) (hc0 : l0.length ≤ c0) (h : spec_DrawInsText.f k l0 = some (r1,r2,r3)) :
  Calls Tryd.prog 28 #[.slice A0 l0.length c0] w fun e w' => e = .returned (.agg #[.string r1,.int .i64 r2,.int .i64 r3]) ∧ Below w.heap.size w w':=by
 have hu26:=Tryd.underlying26
 have HR0:=Aside0.mk hr0
 have HC0:=Aside0.mk hc0
 clear hr0 hc0
 have HB:=Aside0.mk (Below.refl w.heap.size w)
 have H : ((spec_l6Open.f l0).bind fun bt252 => ((spec_l91Ins.f k bt252.1 bt252.2).bind fun bt255 => ((spec_l6Rd_pick.f k bt252.1 bt255.2.2.2 5).bind fun bt260 => (if bt260.1 = 0 then ((spec_l91Num.f k bt252.1 bt260.2 (([(-1),3,40,1000000] : List Int))).bind fun bt265 => (some (bt255.1,bt265.1,bt255.2.2.1))) else (some (bt255.1,bt255.2.1,bt255.2.2.1)))))) = some (r1,r2,r3):=h
 clear h
 replace H:=Option.bind_eq_some_iff.mp H
 obtain ⟨⟨t252,t253⟩,A20,H⟩:=H
 replace H : ((spec_l91Ins.f k t252 t253).bind fun bt255 => ((spec_l6Rd_pick.f k t252 bt255.2.2.2 5).bind fun bt260 => (if bt260.1 = 0 then ((spec_l91Num.f k t252 bt260.2 (([(-1),3,40,1000000] : List Int))).bind fun bt265 => (some (bt255.1,bt265.1,bt255.2.2.1))) else (some (bt255.1,bt255.2.1,bt255.2.2.1))))) = some (r1,r2,r3):=H
 have A2:=Aside0.mk A20
 clear A20
 replace H:=Option.bind_eq_some_iff.mp H
 obtain ⟨⟨t255,t256,t257,t258⟩,A30,H⟩:=H
 replace H : ((spec_l6Rd_pick.f k t252 t258 5).bind fun bt260 => (if bt260.1 = 0 then ((spec_l91Num.f k t252 bt260.2 (([(-1),3,40,1000000] : List Int))).bind fun bt265 => (some (t255,bt265.1,t257))) else (some (t255,t256,t257)))) = some (r1,r2,r3):=H
 have A3:=Aside0.mk A30
 clear A30
 replace H:=Option.bind_eq_some_iff.mp H
 obtain ⟨⟨t260,t261⟩,A40,H⟩:=H
 replace H : (if t260 = 0 then ((spec_l91Num.f k t252 t261 (([(-1),3,40,1000000] : List Int))).bind fun bt265 => (some (t255,bt265.1,t257))) else (some (t255,t256,t257))) = some (r1,r2,r3):=H
 have A4:=Aside0.mk A40
 clear A40
 by_cases c5 : t260 = 0
 ·rw [if_pos c5] at H
  have c5b0 : (t260 == 0) = true:=beq_iff_eq.mpr c5
  have c5b1 : (t260 != 0) = false:=bne_eq_false_iff_eq.mpr c5
  clear c5
  obtain ⟨y262,hy262⟩ : ∃ y_ : List Int,y_ = (([(-1),3,40,1000000] : List Int)):=⟨_,rfl⟩
  replace H : ((spec_l91Num.f k t252 t261 y262).bind fun bt265 => (some (t255,bt265.1,t257))) = some (r1,r2,r3):=by first | (rw [hy262];with_reducible exact H) | (have H2_:=(Option.bind_some _ _).symm.trans H;rw [hy262];with_reducible exact H2_) | (have H2_:=(Option.bind_some _ _).symm.trans H;with_reducible exact H2_) | with_reducible exact H | (rw [hy262];exact H) | exact H
  have Ny262:=Aside0.mk hy262
  clear hy262
  replace H:=Option.bind_eq_some_iff.mp H
  obtain ⟨⟨t265,t266⟩,A60,H⟩:=H
  replace H : (some (t255,t265,t257)) = some (r1,r2,r3):=H
  have A6:=Aside0.mk A60
  clear A60
  simp only [Option.some.injEq,Prod.mk.injEq] at H
  obtain ⟨rfl,rfl,rfl⟩:=H
  go_enter Tryd.func28,Tryd.ntmps28
  go_wp2_with (first | ((with_reducible refine gate_dst (N:=2) rfl ?_);refine Up.bx 2 26 #[.string (⟨#[]⟩ : ByteArray),.int .i64 0,.int .i64 0] ?_;intro gb251 hg w7 hbox hb;have n0_:=Up.BB HB hb;have n1_:=Aside0.mk (hbox);have n2_:=Up.gw hg HB;have n3_:=Up.gw hg HB;clear HB;have HB:=n0_;have BK251:=n1_;have GW251:=n2_;have GE251:=n3_;clear n0_ n1_ n2_ n3_ hb hbox hg) | ((with_reducible refine gate_callee (f:=40) rfl ?_);refine Up.gl (some 6) Tryd.func40 #[.slice A0 l0.length c0] ?_;(with_reducible refine (spec_l6Open.calls _ _ l0 t252 t253 w _ ?side1 ?side2 ?side3 A2.out).mono ?_);(case side1 => repeat (first | (with_reducible first | exact HB.out | apply below_alloc | apply pw_below_drewN | apply below_drew1 | refine below_set ?_ GE251.out) | exact HB.out));(case side2 => exact HR0.out);(case side3 => exact HC0.out);rintro e w8 ⟨g254,rfl,hi,hb,hb2⟩;refine ⟨_,rfl,?_⟩;have n0_:=Aside0.mk (blk_below (g:=gb251) (o:=.cells #[.string (⟨#[]⟩ : ByteArray),.int .i64 0,.int .i64 0] 26 (0,0)) (Up.Kup BK251) hb2);have n1_:=Aside0.mk (hb);have n2_:=Aside0.mk (hi);have n3_:=Aside0.mk (IsS70.ne_blk hi (blk_below (g:=gb251) (o:=.cells #[.string (⟨#[]⟩ : ByteArray),.int .i64 0,.int .i64 0] 26 (0,0)) (Up.Kup BK251) hb2) (by decide));have n4_:=Aside0.mk (Ne.symm (IsS70.ne_blk hi (blk_below (g:=gb251) (o:=.cells #[.string (⟨#[]⟩ : ByteArray),.int .i64 0,.int .i64 0] 26 (0,0)) (Up.Kup BK251) hb2) (by decide)));clear BK251 HB;have BK251:=n0_;have HB:=n1_;have HI254:=n2_;have NB254_251:=n3_;have NB251_254:=n4_;clear n0_ n1_ n2_ n3_ n4_;(try clear hb);(try clear hb2);(try clear hk);(try clear hi)) | ((with_reducible refine gate_callee (f:=41) rfl ?_);refine Up.gl (some 8) Tryd.func41 #[.pointer (some ⟨g254,0,none⟩)] ?_;(with_reducible refine (spec_l91Ins.calls k g254 t252 t253 t255 t256 t257 t258 w _ ?side1 ?side2 A3.out).mono ?_);(case side1 => repeat (first | (with_reducible first | exact HI254.out | apply IsS70.alloc | apply IsS70.drewN | apply IsS70.drew | apply IsS70.set_1 | refine IsS70.far ?_ NB254_251.out _) | exact HI254.out));(case side2 => repeat (first | (with_reducible first | exact HB.out | apply below_alloc | apply pw_below_drewN | apply below_drew1 | refine below_set ?_ (IsS70.ge HI254.out) | refine below_set ?_ GE251.out) | exact HB.out));rintro e w9 ⟨rfl,hi,hb,hk⟩;refine ⟨_,rfl,?_⟩;have n0_:=Aside0.mk (KeepBut.blk hk (g':=gb251) (o:=.cells #[.string (⟨#[]⟩ : ByteArray),.int .i64 0,.int .i64 0] 26 (0,0)) (Up.Kup BK251) NB251_254.out (by simp));have n1_:=Aside0.mk (hb);have n2_:=Aside0.mk (hi);clear BK251 HB HI254;have BK251:=n0_;have HB:=n1_;have HI254:=n2_;clear n0_ n1_ n2_;(try clear hb);(try clear hb2);(try clear hk);(try clear hi)) | ((with_reducible refine gate_dst (N:=4) rfl ?_);refine Up.bx 4 26 #[.string (⟨#[]⟩ : ByteArray),.int .i64 0,.int .i64 0] ?_;intro gb259 hg w10 hbox hb;have n0_:=Up.KB BK251 hb;have n1_:=Aside0.mk (IsS70.below (by repeat (first | (with_reducible first | exact HI254.out | apply IsS70.alloc | apply IsS70.drewN | apply IsS70.drew | apply IsS70.set_1 | refine IsS70.far ?_ NB254_251.out _) | exact HI254.out)) hb);have n2_:=Aside0.mk (below_step (by repeat (first | (with_reducible first | exact HB.out | apply below_alloc | apply pw_below_drewN | apply below_drew1 | refine below_set ?_ (IsS70.ge HI254.out) | refine below_set ?_ GE251.out) | exact HB.out)) hb);have n3_:=Aside0.mk (hbox);have n4_:=Aside0.mk ((by rw [hg];exact (below_size (by repeat (first | (with_reducible first | exact HB.out | apply below_alloc | apply pw_below_drewN | apply below_drew1 | refine below_set ?_ (IsS70.ge HI254.out) | refine below_set ?_ GE251.out) | exact HB.out))) : w.heap.size ≤ gb259));have n5_:=Aside0.mk ((by rw [hg];exact (below_size (by repeat (first | (with_reducible first | exact HB.out | apply below_alloc | apply pw_below_drewN | apply below_drew1 | refine below_set ?_ (IsS70.ge HI254.out) | refine below_set ?_ GE251.out) | exact HB.out))) : w.heap.size ≤ gb259));have n6_:=Up.nl hg BK251;have n7_:=Up.ng hg BK251;have n8_:=Aside0.mk ((by rw [hg];exact Nat.ne_of_lt (IsS70.lt (show IsS70 w _ g254 t252 t258 from by repeat (first | (with_reducible first | exact HI254.out | apply IsS70.alloc | apply IsS70.drewN | apply IsS70.drew | apply IsS70.set_1 | refine IsS70.far ?_ NB254_251.out _) | exact HI254.out))) : g254 ≠ gb259));have n9_:=Aside0.mk ((by rw [hg];exact Nat.ne_of_gt (IsS70.lt (show IsS70 w _ g254 t252 t258 from by repeat (first | (with_reducible first | exact HI254.out | apply IsS70.alloc | apply IsS70.drewN | apply IsS70.drew | apply IsS70.set_1 | refine IsS70.far ?_ NB254_251.out _) | exact HI254.out))) : gb259 ≠ g254));clear BK251 HI254 HB;have BK251:=n0_;have HI254:=n1_;have HB:=n2_;have BK259:=n3_;have GW259:=n4_;have GE259:=n5_;have NB251_259:=n6_;have NB259_251:=n7_;have NB254_259:=n8_;have NB259_254:=n9_;clear n0_ n1_ n2_ n3_ n4_ n5_ n6_ n7_ n8_ n9_ hb hbox hg;have hnb11:=NB259_251.out;have hnc11:=NB251_259.out;have hnb12:=NB259_254.out;have hnc12:=NB254_259.out;have hcz13_0:=Up.c0 BK259;have hcz13_1:=Up.c1 BK259;have hcz13_2:=Up.c2 BK259;have hfz13_0:=blk_frozen BK259.out 0;have hfz13_1:=blk_frozen BK259.out 1;have hfz13_2:=blk_frozen BK259.out 2) | ((with_reducible refine gate_callee (f:=42) rfl ?_);refine Up.gl (some 10) Tryd.func42 #[.pointer (some ⟨g254,0,none⟩),.int .i64 5] ?_;(with_reducible refine (spec_l6Rd_pick.calls k g254 t252 t258 5 t260 t261 w _ ?side1 ?side2 A4.out).mono ?_);(case side1 => repeat (first | (with_reducible first | exact HI254.out | apply IsS70.alloc | apply IsS70.drewN | apply IsS70.drew | apply IsS70.set_1 | refine IsS70.far ?_ NB254_251.out _ | refine IsS70.far ?_ NB254_259.out _) | exact HI254.out));(case side2 => repeat (first | (with_reducible first | exact HB.out | apply below_alloc | apply pw_below_drewN | apply below_drew1 | refine below_set ?_ (IsS70.ge HI254.out) | refine below_set ?_ GE251.out | refine below_set ?_ GE259.out) | exact HB.out));rintro e w14 ⟨rfl,hi,hb,hk⟩;refine ⟨_,rfl,?_⟩;have n0_:=Aside0.mk (KeepBut.blk hk (g':=gb251) (o:=.cells #[.string (⟨#[]⟩ : ByteArray),.int .i64 0,.int .i64 0] 26 (0,0)) (Up.Kx BK251) NB251_254.out (by simp));have n1_:=Aside0.mk (KeepBut.blk hk (g':=gb259) (o:=.cells #[.string t255,.int .i64 t256,.int .i64 t257] 26 (0,0)) (Up.Kx BK259) NB259_254.out (by simp));have n2_:=Aside0.mk (hb);have n3_:=Aside0.mk (hi);clear BK251 BK259 HB HI254;have BK251:=n0_;have BK259:=n1_;have HB:=n2_;have HI254:=n3_;clear n0_ n1_ n2_ n3_;(try clear hb);(try clear hb2);(try clear hk);(try clear hi)) | ((with_reducible refine gate_dst (N:=13) rfl ?_);refine Kd.R_lit (Kd.int .i64) _ 3 ?hg (N:=13) ?hd (xs:=([(-1),3,40,1000000] : List Int)) (inner:=[.int .i64 (-1),.int .i64 3,.int .i64 40,.int .i64 1000000]) (ok:=fun _ => True) (okp:=fun _ => True) ?hr ?hp (fun _ hk => hk) trivial (Below.refl _ _) (Nat.le_refl _) (by simp) ?_;(case hd => rfl);(case hg => rfl);(case hr => first | (go_simp;done) | (go_simp;rfl));(case hp => exact (Reps.one (show Kd.M (Kd.int .i64) _ _ _ (-1) [.int .i64 (-1)] from rfl) (Reps.one (show Kd.M (Kd.int .i64) _ _ _ 3 [.int .i64 3] from rfl) (Reps.one (show Kd.M (Kd.int .i64) _ _ _ 40 [.int .i64 40] from rfl) (Reps.one (show Kd.M (Kd.int .i64) _ _ _ 1000000 [.int .i64 1000000] from rfl) (Reps.none _ _))))));intro v263 w15 ho16 hb hg_ hnew_;clear hg_ hnew_;(first | rw [← Ny262.out] at ho16 | (simp only [Int.reduceToNat] at ho16;rw [← Ny262.out] at ho16));have n0_:=Aside0.mk (Kd.R_lower ho16 (below_size (by repeat (first | (with_reducible first | exact HB.out | apply below_alloc | apply pw_below_drewN | apply below_drew1 | refine below_set ?_ (IsS70.ge HI254.out) | refine below_set ?_ GE251.out | refine below_set ?_ GE259.out) | exact HB.out))));have n1_:=Up.KB BK251 hb;have n2_:=Aside0.mk (IsS70.below (by repeat (first | (with_reducible first | exact HI254.out | apply IsS70.alloc | apply IsS70.drewN | apply IsS70.drew | apply IsS70.set_1 | refine IsS70.far ?_ NB254_251.out _ | refine IsS70.far ?_ NB254_259.out _) | exact HI254.out)) hb);have n3_:=Up.KB BK259 hb;have n4_:=Aside0.mk (below_step (by repeat (first | (with_reducible first | exact HB.out | apply below_alloc | apply pw_below_drewN | apply below_drew1 | refine below_set ?_ (IsS70.ge HI254.out) | refine below_set ?_ GE251.out | refine below_set ?_ GE259.out) | exact HB.out)) hb);clear BK251 HI254 BK259 HB;have HO264:=n0_;have BK251:=n1_;have HI254:=n2_;have BK259:=n3_;have HB:=n4_;clear n0_ n1_ n2_ n3_ n4_ hb ho16;obtain ⟨Ao17,co17,eo17⟩:=Kd.R_slice HO264.out;subst eo17) | ((with_reducible refine gate_callee (f:=43) rfl ?_);refine Up.gl (some 14) Tryd.func43 #[.pointer (some ⟨g254,0,none⟩),.slice Ao17 y262.length co17] ?_;(with_reducible refine (spec_l91Num.calls k g254 t252 t261 _ _ y262 t265 t266 w _ ?side1 ?side2 ?side3 ?side4 ?side5 A6.out).mono ?_);(case side1 => repeat (first | (with_reducible first | exact HI254.out | apply IsS70.alloc | apply IsS70.drewN | apply IsS70.drew | apply IsS70.set_1 | refine IsS70.far ?_ NB254_251.out _ | refine IsS70.far ?_ NB254_259.out _) | exact HI254.out));(case side2 => repeat (first | (with_reducible first | exact HB.out | apply below_alloc | apply pw_below_drewN | apply below_drew1 | refine below_set ?_ (IsS70.ge HI254.out) | refine below_set ?_ GE251.out | refine below_set ?_ GE259.out) | exact HB.out));(case side3 => repeat (first | exact (Kd.R_reads' HO264.out).2.2 | (with_reducible refine Kd.C_alloc ?_ _) | (with_reducible refine Kd.C_drewN ?_ _) | (with_reducible refine Kd.C_drew ?_)));(case side4 => exact (Kd.R_reads' HO264.out).2.1);(case side5 => exact far_slice (IsS70.own_ne HI254.out HO264.out (by decide)));rintro e w18 ⟨rfl,hi,hb,hk⟩;refine ⟨_,rfl,?_⟩;have n0_:=Aside0.mk (KeepBut.blk hk (g':=gb251) (o:=.cells #[.string (⟨#[]⟩ : ByteArray),.int .i64 0,.int .i64 0] 26 (0,0)) (Up.Kup BK251) NB251_254.out (by simp));have n1_:=Aside0.mk (KeepBut.blk hk (g':=gb259) (o:=.cells #[.string t255,.int .i64 t256,.int .i64 t257] 26 (0,0)) (Up.Kup BK259) NB259_254.out (by simp));have n2_:=Aside0.mk (Kd.R_mono (Kd.R_keep (IsS70.apart (show IsS70 w _ g254 t252 t261 from by repeat (first | (with_reducible first | exact HI254.out | apply IsS70.alloc | apply IsS70.drewN | apply IsS70.drew | apply IsS70.set_1 | refine IsS70.far ?_ NB254_251.out _ | refine IsS70.far ?_ NB254_259.out _) | exact HI254.out)) (Up.Rup HO264) (by decide)) hk (fun _ h => h.2)) (fun _ h => h.1));have n3_:=Aside0.mk (hb);have n4_:=Aside0.mk (hi);clear BK251 BK259 HO264 HB HI254;have BK251:=n0_;have BK259:=n1_;have HO264:=n2_;have HB:=n3_;have HI254:=n4_;clear n0_ n1_ n2_ n3_ n4_;(try clear hb);(try clear hb2);(try clear hk);(try clear hi);have hcz19_0:=Up.c0 BK259;have hcz19_1:=Up.c1 BK259;have hcz19_2:=Up.c2 BK259;have hfz19_0:=blk_frozen BK259.out 0;have hfz19_1:=blk_frozen BK259.out 1;have hfz19_2:=blk_frozen BK259.out 2;have hnb20:=NB251_254.out;have hnc20:=NB254_251.out;have hcz21_0:=Up.c0 BK251;have hcz21_1:=Up.c1 BK251;have hcz21_2:=Up.c2 BK251;have hfz21_0:=blk_frozen BK251.out 0;have hfz21_1:=blk_frozen BK251.out 1;have hfz21_2:=blk_frozen BK251.out 2))
  refine bodyPost_ret (results_cell_row rfl _ _ gb251 26 #[.string t255,.int .i64 t265,.int .i64 t257] (0,0) _ rfl (Up.Kx BK251) Tryd.underlying26 rfl (by kernel_rfl)) rfl ?_
  exact ⟨by first | rfl | (simp [errW_none,errW_some] <;> rfl) | (simp [*,errW_none,errW_some] <;> rfl),by repeat (first | (with_reducible first | exact HB.out | apply below_alloc | apply pw_below_drewN | apply below_drew1 | refine below_set ?_ (IsS70.ge HI254.out) | refine below_set ?_ GE251.out | refine below_set ?_ GE259.out) | exact HB.out)⟩
 ·rw [if_neg c5] at H
  have c5b0 : (t260 == 0) = false:=beq_eq_false_iff_ne.mpr c5
  have c5b1 : (t260 != 0) = true:=bne_iff_ne.mpr c5
  simp only [Option.some.injEq,Prod.mk.injEq] at H
  obtain ⟨rfl,rfl,rfl⟩:=H
  go_enter Tryd.func28,Tryd.ntmps28
  go_wp2_with (first | ((with_reducible refine gate_dst (N:=2) rfl ?_);refine Up.bx 2 26 #[.string (⟨#[]⟩ : ByteArray),.int .i64 0,.int .i64 0] ?_;intro gb251 hg w22 hbox hb;have n0_:=Up.BB HB hb;have n1_:=Aside0.mk (hbox);have n2_:=Up.gw hg HB;have n3_:=Up.gw hg HB;clear HB;have HB:=n0_;have BK251:=n1_;have GW251:=n2_;have GE251:=n3_;clear n0_ n1_ n2_ n3_ hb hbox hg) | ((with_reducible refine gate_callee (f:=40) rfl ?_);refine Up.gl (some 6) Tryd.func40 #[.slice A0 l0.length c0] ?_;(with_reducible refine (spec_l6Open.calls _ _ l0 t252 t253 w _ ?side1 ?side2 ?side3 A2.out).mono ?_);(case side1 => repeat (first | (with_reducible first | exact HB.out | apply below_alloc | apply pw_below_drewN | apply below_drew1 | refine below_set ?_ GE251.out) | exact HB.out));(case side2 => exact HR0.out);(case side3 => exact HC0.out);rintro e w23 ⟨g254,rfl,hi,hb,hb2⟩;refine ⟨_,rfl,?_⟩;have n0_:=Aside0.mk (blk_below (g:=gb251) (o:=.cells #[.string (⟨#[]⟩ : ByteArray),.int .i64 0,.int .i64 0] 26 (0,0)) (Up.Kup BK251) hb2);have n1_:=Aside0.mk (hb);have n2_:=Aside0.mk (hi);have n3_:=Aside0.mk (IsS70.ne_blk hi (blk_below (g:=gb251) (o:=.cells #[.string (⟨#[]⟩ : ByteArray),.int .i64 0,.int .i64 0] 26 (0,0)) (Up.Kup BK251) hb2) (by decide));have n4_:=Aside0.mk (Ne.symm (IsS70.ne_blk hi (blk_below (g:=gb251) (o:=.cells #[.string (⟨#[]⟩ : ByteArray),.int .i64 0,.int .i64 0] 26 (0,0)) (Up.Kup BK251) hb2) (by decide)));clear BK251 HB;have BK251:=n0_;have HB:=n1_;have HI254:=n2_;have NB254_251:=n3_;have NB251_254:=n4_;clear n0_ n1_ n2_ n3_ n4_;(try clear hb);(try clear hb2);(try clear hk);(try clear hi)) | ((with_reducible refine gate_callee (f:=41) rfl ?_);refine Up.gl (some 8) Tryd.func41 #[.pointer (some ⟨g254,0,none⟩)] ?_;(with_reducible refine (spec_l91Ins.calls k g254 t252 t253 t255 t256 t257 t258 w _ ?side1 ?side2 A3.out).mono ?_);(case side1 => repeat (first | (with_reducible first | exact HI254.out | apply IsS70.alloc | apply IsS70.drewN | apply IsS70.drew | apply IsS70.set_1 | refine IsS70.far ?_ NB254_251.out _) | exact HI254.out));(case side2 => repeat (first | (with_reducible first | exact HB.out | apply below_alloc | apply pw_below_drewN | apply below_drew1 | refine below_set ?_ (IsS70.ge HI254.out) | refine below_set ?_ GE251.out) | exact HB.out));rintro e w24 ⟨rfl,hi,hb,hk⟩;refine ⟨_,rfl,?_⟩;have n0_:=Aside0.mk (KeepBut.blk hk (g':=gb251) (o:=.cells #[.string (⟨#[]⟩ : ByteArray),.int .i64 0,.int .i64 0] 26 (0,0)) (Up.Kup BK251) NB251_254.out (by simp));have n1_:=Aside0.mk (hb);have n2_:=Aside0.mk (hi);clear BK251 HB HI254;have BK251:=n0_;have HB:=n1_;have HI254:=n2_;clear n0_ n1_ n2_;(try clear hb);(try clear hb2);(try clear hk);(try clear hi)) | ((with_reducible refine gate_dst (N:=4) rfl ?_);refine Up.bx 4 26 #[.string (⟨#[]⟩ : ByteArray),.int .i64 0,.int .i64 0] ?_;intro gb259 hg w25 hbox hb;have n0_:=Up.KB BK251 hb;have n1_:=Aside0.mk (IsS70.below (by repeat (first | (with_reducible first | exact HI254.out | apply IsS70.alloc | apply IsS70.drewN | apply IsS70.drew | apply IsS70.set_1 | refine IsS70.far ?_ NB254_251.out _) | exact HI254.out)) hb);have n2_:=Aside0.mk (below_step (by repeat (first | (with_reducible first | exact HB.out | apply below_alloc | apply pw_below_drewN | apply below_drew1 | refine below_set ?_ (IsS70.ge HI254.out) | refine below_set ?_ GE251.out) | exact HB.out)) hb);have n3_:=Aside0.mk (hbox);have n4_:=Aside0.mk ((by rw [hg];exact (below_size (by repeat (first | (with_reducible first | exact HB.out | apply below_alloc | apply pw_below_drewN | apply below_drew1 | refine below_set ?_ (IsS70.ge HI254.out) | refine below_set ?_ GE251.out) | exact HB.out))) : w.heap.size ≤ gb259));have n5_:=Aside0.mk ((by rw [hg];exact (below_size (by repeat (first | (with_reducible first | exact HB.out | apply below_alloc | apply pw_below_drewN | apply below_drew1 | refine below_set ?_ (IsS70.ge HI254.out) | refine below_set ?_ GE251.out) | exact HB.out))) : w.heap.size ≤ gb259));have n6_:=Up.nl hg BK251;have n7_:=Up.ng hg BK251;have n8_:=Aside0.mk ((by rw [hg];exact Nat.ne_of_lt (IsS70.lt (show IsS70 w _ g254 t252 t258 from by repeat (first | (with_reducible first | exact HI254.out | apply IsS70.alloc | apply IsS70.drewN | apply IsS70.drew | apply IsS70.set_1 | refine IsS70.far ?_ NB254_251.out _) | exact HI254.out))) : g254 ≠ gb259));have n9_:=Aside0.mk ((by rw [hg];exact Nat.ne_of_gt (IsS70.lt (show IsS70 w _ g254 t252 t258 from by repeat (first | (with_reducible first | exact HI254.out | apply IsS70.alloc | apply IsS70.drewN | apply IsS70.drew | apply IsS70.set_1 | refine IsS70.far ?_ NB254_251.out _) | exact HI254.out))) : gb259 ≠ g254));clear BK251 HI254 HB;have BK251:=n0_;have HI254:=n1_;have HB:=n2_;have BK259:=n3_;have GW259:=n4_;have GE259:=n5_;have NB251_259:=n6_;have NB259_251:=n7_;have NB254_259:=n8_;have NB259_254:=n9_;clear n0_ n1_ n2_ n3_ n4_ n5_ n6_ n7_ n8_ n9_ hb hbox hg;have hnb26:=NB259_251.out;have hnc26:=NB251_259.out;have hnb27:=NB259_254.out;have hnc27:=NB254_259.out;have hcz28_0:=Up.c0 BK259;have hcz28_1:=Up.c1 BK259;have hcz28_2:=Up.c2 BK259;have hfz28_0:=blk_frozen BK259.out 0;have hfz28_1:=blk_frozen BK259.out 1;have hfz28_2:=blk_frozen BK259.out 2) | ((with_reducible refine gate_callee (f:=42) rfl ?_);refine Up.gl (some 10) Tryd.func42 #[.pointer (some ⟨g254,0,none⟩),.int .i64 5] ?_;(with_reducible refine (spec_l6Rd_pick.calls k g254 t252 t258 5 t260 t261 w _ ?side1 ?side2 A4.out).mono ?_);(case side1 => repeat (first | (with_reducible first | exact HI254.out | apply IsS70.alloc | apply IsS70.drewN | apply IsS70.drew | apply IsS70.set_1 | refine IsS70.far ?_ NB254_251.out _ | refine IsS70.far ?_ NB254_259.out _) | exact HI254.out));(case side2 => repeat (first | (with_reducible first | exact HB.out | apply below_alloc | apply pw_below_drewN | apply below_drew1 | refine below_set ?_ (IsS70.ge HI254.out) | refine below_set ?_ GE251.out | refine below_set ?_ GE259.out) | exact HB.out));rintro e w29 ⟨rfl,hi,hb,hk⟩;refine ⟨_,rfl,?_⟩;have n0_:=Aside0.mk (KeepBut.blk hk (g':=gb251) (o:=.cells #[.string (⟨#[]⟩ : ByteArray),.int .i64 0,.int .i64 0] 26 (0,0)) (Up.Kx BK251) NB251_254.out (by simp));have n1_:=Aside0.mk (KeepBut.blk hk (g':=gb259) (o:=.cells #[.string t255,.int .i64 t256,.int .i64 t257] 26 (0,0)) (Up.Kx BK259) NB259_254.out (by simp));have n2_:=Aside0.mk (hb);have n3_:=Aside0.mk (hi);clear BK251 BK259 HB HI254;have BK251:=n0_;have BK259:=n1_;have HB:=n2_;have HI254:=n3_;clear n0_ n1_ n2_ n3_;(try clear hb);(try clear hb2);(try clear hk);(try clear hi);have hcz30_0:=Up.c0 BK259;have hcz30_1:=Up.c1 BK259;have hcz30_2:=Up.c2 BK259;have hfz30_0:=blk_frozen BK259.out 0;have hfz30_1:=blk_frozen BK259.out 1;have hfz30_2:=blk_frozen BK259.out 2;have hnb31:=NB251_254.out;have hnc31:=NB254_251.out;have hcz32_0:=Up.c0 BK251;have hcz32_1:=Up.c1 BK251;have hcz32_2:=Up.c2 BK251;have hfz32_0:=blk_frozen BK251.out 0;have hfz32_1:=blk_frozen BK251.out 1;have hfz32_2:=blk_frozen BK251.out 2))
  refine bodyPost_ret (results_cell_row rfl _ _ gb251 26 #[.string t255,.int .i64 t256,.int .i64 t257] (0,0) _ rfl (Up.Kx BK251) Tryd.underlying26 rfl (by kernel_rfl)) rfl ?_
  exact ⟨by first | rfl | (simp [errW_none,errW_some] <;> rfl) | (simp [*,errW_none,errW_some] <;> rfl),by repeat (first | (with_reducible first | exact HB.out | apply below_alloc | apply pw_below_drewN | apply below_drew1 | refine below_set ?_ (IsS70.ge HI254.out) | refine below_set ?_ GE251.out | refine below_set ?_ GE259.out) | exact HB.out)⟩

/-! ### laws_FnInsText: function 9 -/
def laws_FnInsText.f (k : Nat) (l0 : List Int) : Option (Bool):=if (l0.length : Int) > 1048576 then (some true) else ((spec_DrawInsText.f k l0).bind fun bt267 => ((impl_InsText.f k bt267.1 bt267.2.1 bt267.2.2).bind fun t271 => ((spec_InsText.f k bt267.1 bt267.2.1 bt267.2.2).bind fun t272 => (if t271.toList = t272.toList then ((impl_InsRead.f k t271).bind fun bt273 => ((impl_InsOk.f k bt267.1 bt267.2.1 bt267.2.2).bind fun t278 => (if (bt273.2.2.2 == t278) = true then (if bt273.2.2.2 = true then (some (bt273.1.toList == bt267.1.toList && (bt273.2.1 == bt267.2.1 && (bt273.2.2.1 == bt267.2.2)))) else (some true)) else (some false)))) else (some false)))))
theorem laws_FnInsText.mono : ∀ a0 k,LeO (laws_FnInsText.f k a0) (laws_FnInsText.f (k + 1) a0):=by
 intro a0 k
 unfold laws_FnInsText.f
 repeat' first
   | (with_reducible exact impl_InsOk.mono _ _ _ _)
   | (with_reducible exact impl_InsRead.mono _ _)
   | (with_reducible exact impl_InsText.mono _ _ _ _)
   | (with_reducible exact spec_DrawInsText.mono _ _)
   | (with_reducible exact spec_InsText.mono _ _ _ _)
   | (with_reducible exact LeO.refl _)
   | (with_reducible exact LeO.none _)
   | (with_reducible refine LeO.ite ?_ ?_)
   | (with_reducible refine LeO.bind ?_ (fun _ => ?_))
   | exact impl_InsOk.mono _ _ _ _
   | exact impl_InsRead.mono _ _
   | exact impl_InsText.mono _ _ _ _
   | exact spec_DrawInsText.mono _ _
   | exact spec_InsText.mono _ _ _ _
   | exact LeO.none _
   | refine LeO.ite ?_ ?_
   | refine LeO.bind ?_ (fun _ => ?_)
set_option maxHeartbeats 8000000 in
set_option maxRecDepth 100000 in
theorem laws_FnInsText.calls (k : Nat) (A0 : Option Addr) (c0 : Nat) (l0 : List Int) (r : Bool) (w : World) (hT_ : Tab w) (hr0 : Kd.C (Kd.int .u8) w A0 l0.length l0) (hc0 : l0.length ≤ c0) (h : laws_FnInsText.f k l0 = some r) :
  Calls Tryd.prog 9 #[.slice A0 l0.length c0] w fun e w' => e = .returned (.bool r) ∧ Below w.heap.size w w':=by
 have hu26:=Tryd.underlying26
 have HR0:=Aside0.mk hr0
 have HC0:=Aside0.mk hc0
 clear hr0 hc0
 have HB:=Aside0.mk (Below.refl w.heap.size w)
 have H : (if (l0.length : Int) > 1048576 then (some true) else ((spec_DrawInsText.f k l0).bind fun bt267 => ((impl_InsText.f k bt267.1 bt267.2.1 bt267.2.2).bind fun t271 => ((spec_InsText.f k bt267.1 bt267.2.1 bt267.2.2).bind fun t272 => (if t271.toList = t272.toList then ((impl_InsRead.f k t271).bind fun bt273 => ((impl_InsOk.f k bt267.1 bt267.2.1 bt267.2.2).bind fun t278 => (if (bt273.2.2.2 == t278) = true then (if bt273.2.2.2 = true then (some (bt273.1.toList == bt267.1.toList && (bt273.2.1 == bt267.2.1 && (bt273.2.2.1 == bt267.2.2)))) else (some true)) else (some false)))) else (some false)))))) = some r:=h
 clear h
 by_cases c2 : (l0.length : Int) > 1048576
 ·rw [if_pos c2] at H
  have c2b0 : decide (1048576 < (l0.length : Int)) = true:=decide_eq_true c2
  have c2b1 : decide (1048576 < l0.length) = true:=decide_eq_true (by omega)
  clear c2
  obtain rfl:=Option.some.inj H
  go_enter Tryd.func9,Tryd.ntmps9
  go_wp2
  go_ret
  exact Up.e1 (Up.Bup HB)
 ·rw [if_neg c2] at H
  have c2b0 : decide (1048576 < (l0.length : Int)) = false:=decide_eq_false c2
  have c2b1 : decide (1048576 < l0.length) = false:=decide_eq_false (by omega)
  clear c2
  replace H:=Option.bind_eq_some_iff.mp H
  obtain ⟨⟨t267,t268,t269⟩,A30,H⟩:=H
  replace H : ((impl_InsText.f k t267 t268 t269).bind fun t271 => ((spec_InsText.f k t267 t268 t269).bind fun t272 => (if t271.toList = t272.toList then ((impl_InsRead.f k t271).bind fun bt273 => ((impl_InsOk.f k t267 t268 t269).bind fun t278 => (if (bt273.2.2.2 == t278) = true then (if bt273.2.2.2 = true then (some (bt273.1.toList == t267.toList && (bt273.2.1 == t268 && (bt273.2.2.1 == t269)))) else (some true)) else (some false)))) else (some false)))) = some r:=H
  have A3:=Aside0.mk A30
  clear A30
  replace H:=Option.bind_eq_some_iff.mp H
  obtain ⟨t271,A40,H⟩:=H
  replace H : ((spec_InsText.f k t267 t268 t269).bind fun t272 => (if t271.toList = t272.toList then ((impl_InsRead.f k t271).bind fun bt273 => ((impl_InsOk.f k t267 t268 t269).bind fun t278 => (if (bt273.2.2.2 == t278) = true then (if bt273.2.2.2 = true then (some (bt273.1.toList == t267.toList && (bt273.2.1 == t268 && (bt273.2.2.1 == t269)))) else (some true)) else (some false)))) else (some false))) = some r:=H
  have A4:=Aside0.mk A40
  clear A40
  replace H:=Option.bind_eq_some_iff.mp H
  obtain ⟨t272,A50,H⟩:=H
  replace H : (if t271.toList = t272.toList then ((impl_InsRead.f k t271).bind fun bt273 => ((impl_InsOk.f k t267 t268 t269).bind fun t278 => (if (bt273.2.2.2 == t278) = true then (if bt273.2.2.2 = true then (some (bt273.1.toList == t267.toList && (bt273.2.1 == t268 && (bt273.2.2.1 == t269)))) else (some true)) else (some false)))) else (some false)) = some r:=H
  have A5:=Aside0.mk A50
  clear A50
  by_cases c6 : t271.toList = t272.toList
  ·rw [if_pos c6] at H
   have c6b0 : (t271.toList == t272.toList) = true:=beq_iff_eq.mpr c6
   have c6b1 : (t271.toList != t272.toList) = false:=bne_eq_false_iff_eq.mpr c6
   clear c6
   replace H:=Option.bind_eq_some_iff.mp H
   obtain ⟨⟨t273,t274,t275,t276⟩,A70,H⟩:=H
   replace H : ((impl_InsOk.f k t267 t268 t269).bind fun t278 => (if (t276 == t278) = true then (if t276 = true then (some (t273.toList == t267.toList && (t274 == t268 && (t275 == t269)))) else (some true)) else (some false))) = some r:=H
   have A7:=Aside0.mk A70
   clear A70
   replace H:=Option.bind_eq_some_iff.mp H
   obtain ⟨t278,A80,H⟩:=H
   replace H : (if (t276 == t278) = true then (if t276 = true then (some (t273.toList == t267.toList && (t274 == t268 && (t275 == t269)))) else (some true)) else (some false)) = some r:=H
   have A8:=Aside0.mk A80
   clear A80
   by_cases c9 : (t276 == t278) = true
   ·rw [if_pos c9] at H
    have c9b0 : (t276 == t278) = true:=c9
    (try (have c9b1 : decide (t276 = t278) = true:=by simpa using c9))
    (try (have c9b2 : (t276 == t278) = true:=by simpa using c9))
    clear c9
    by_cases c10 : t276 = true
    ·subst c10
     have H1 : (some (t273.toList == t267.toList && (t274 == t268 && (t275 == t269)))) = some r:=by rw [if_pos rfl] at H;exact H
     clear H
     have H:=H1
     clear H1
     obtain rfl:=Option.some.inj H
     go_enter Tryd.func9,Tryd.ntmps9
     go_wp2_with (first | ((with_reducible refine gate_callee (f:=28) rfl ?_);refine Up.gl (some 12) Tryd.func28 #[.slice A0 l0.length c0] ?_;(with_reducible refine (spec_DrawInsText.calls k _ _ l0 t267 t268 t269 _ ?side1 ?side2 A3.out).mono ?_);(case side1 => repeat (first | exact HR0.out | (with_reducible refine Kd.C_alloc ?_ _) | (with_reducible refine Kd.C_drewN ?_ _) | (with_reducible refine Kd.C_drew ?_)));(case side2 => exact HC0.out);rintro e w11 ⟨rfl,hb⟩;refine ⟨_,rfl,?_⟩;have n0_:=Up.BB HB hb;clear HB;have HB:=n0_;clear n0_;(try clear hb);(try clear hb2);(try clear hk);(try clear hi)) | ((with_reducible refine gate_dst (N:=3) rfl ?_);refine Up.bx 3 26 #[.string (⟨#[]⟩ : ByteArray),.int .i64 0,.int .i64 0] ?_;intro gb270 hg w12 hbox hb;have n0_:=Up.BB HB hb;have n1_:=Aside0.mk (hbox);have n2_:=Up.gw hg HB;have n3_:=Up.gw hg HB;clear HB;have HB:=n0_;have BK270:=n1_;have GW270:=n2_;have GE270:=n3_;clear n0_ n1_ n2_ n3_ hb hbox hg;have hcz13_0:=Up.c0 BK270;have hcz13_1:=Up.c1 BK270;have hcz13_2:=Up.c2 BK270;have hfz13_0:=blk_frozen BK270.out 0;have hfz13_1:=blk_frozen BK270.out 1;have hfz13_2:=blk_frozen BK270.out 2) | ((with_reducible refine gate_callee (f:=23) rfl ?_);refine Up.gl (some 14) Tryd.func23 #[.agg #[.string t267,.int .i64 t268,.int .i64 t269]] ?_;(with_reducible refine (impl_InsText.calls (hT_:=?tab1) k t267 t268 t269 t271 _ A4.out).mono ?_);(case tab1 => exact hT_.below (Up.Bx HB));rintro e w14 ⟨rfl,hb⟩;refine ⟨_,rfl,?_⟩;have n0_:=Aside0.mk (blk_below (g:=gb270) (o:=.cells #[.string t267,.int .i64 t268,.int .i64 t269] 26 (0,0)) (Up.Kx BK270) hb);have n1_:=Aside0.mk (below_step (Up.Bx HB) hb);clear BK270 HB;have BK270:=n0_;have HB:=n1_;clear n0_ n1_;(try clear hb);(try clear hb2);(try clear hk);(try clear hi);have hcz15_0:=Up.c0 BK270;have hcz15_1:=Up.c1 BK270;have hcz15_2:=Up.c2 BK270;have hfz15_0:=blk_frozen BK270.out 0;have hfz15_1:=blk_frozen BK270.out 1;have hfz15_2:=blk_frozen BK270.out 2) | ((with_reducible refine gate_callee (f:=22) rfl ?_);refine Up.gl (some 16) Tryd.func22 #[.agg #[.string t267,.int .i64 t268,.int .i64 t269]] ?_;(with_reducible refine (spec_InsText.calls k t267 t268 t269 t272 _ A5.out).mono ?_);rintro e w16 ⟨rfl,hb⟩;refine ⟨_,rfl,?_⟩;have n0_:=Up.KB BK270 hb;have n1_:=Aside0.mk (below_step (Up.Bx HB) hb);clear BK270 HB;have BK270:=n0_;have HB:=n1_;clear n0_ n1_;(try clear hb);(try clear hb2);(try clear hk);(try clear hi)) | ((with_reducible refine gate_callee (f:=26) rfl ?_);refine Up.gl (some 22) Tryd.func26 #[.string t271] ?_;(with_reducible refine (impl_InsRead.calls (hT_:=?tab1) k t271 t273 t274 t275 true _ A7.out).mono ?_);(case tab1 => exact hT_.below (Up.Bx HB));rintro e w17 ⟨rfl,hb⟩;refine ⟨_,rfl,?_⟩;have n0_:=Up.KB BK270 hb;have n1_:=Aside0.mk (below_step (Up.Bx HB) hb);clear BK270 HB;have BK270:=n0_;have HB:=n1_;clear n0_ n1_;(try clear hb);(try clear hb2);(try clear hk);(try clear hi)) | ((with_reducible refine gate_dst (N:=6) rfl ?_);refine Up.bx 6 26 #[.string (⟨#[]⟩ : ByteArray),.int .i64 0,.int .i64 0] ?_;intro gb277 hg w18 hbox hb;have n0_:=Up.KB BK270 hb;have n1_:=Aside0.mk (below_step (Up.Bx HB) hb);have n2_:=Aside0.mk (hbox);have n3_:=Up.gw hg HB;have n4_:=Up.gw hg HB;have n5_:=Up.nl hg BK270;have n6_:=Up.ng hg BK270;clear BK270 HB;have BK270:=n0_;have HB:=n1_;have BK277:=n2_;have GW277:=n3_;have GE277:=n4_;have NB270_277:=n5_;have NB277_270:=n6_;clear n0_ n1_ n2_ n3_ n4_ n5_ n6_ hb hbox hg;have hnb19:=NB277_270.out;have hnc19:=NB270_277.out;have hcz20_0:=Up.c0 BK277;have hcz20_1:=Up.c1 BK277;have hcz20_2:=Up.c2 BK277;have hfz20_0:=blk_frozen BK277.out 0;have hfz20_1:=blk_frozen BK277.out 1;have hfz20_2:=blk_frozen BK277.out 2;have hcz21_0:=Up.c0 BK270;have hcz21_1:=Up.c1 BK270;have hcz21_2:=Up.c2 BK270;have hfz21_0:=blk_frozen BK270.out 0;have hfz21_1:=blk_frozen BK270.out 1;have hfz21_2:=blk_frozen BK270.out 2) | ((with_reducible refine gate_callee (f:=14) rfl ?_);refine Up.gl (some 27) Tryd.func14 #[.agg #[.string t267,.int .i64 t268,.int .i64 t269]] ?_;(with_reducible refine (impl_InsOk.calls (hT_:=?tab1) k t267 t268 t269 t278 _ A8.out).mono ?_);(case tab1 => exact hT_.below (Up.Bx HB));rintro e w22 ⟨rfl,hb⟩;refine ⟨_,rfl,?_⟩;have n0_:=Aside0.mk (blk_below (g:=gb270) (o:=.cells #[.string t267,.int .i64 t268,.int .i64 t269] 26 (0,0)) (Up.Kx BK270) hb);have n1_:=Aside0.mk (blk_below (g:=gb277) (o:=.cells #[.string t273,.int .i64 t274,.int .i64 t275] 26 (0,0)) (Up.Kx BK277) hb);have n2_:=Aside0.mk (below_step (Up.Bx HB) hb);clear BK270 BK277 HB;have BK270:=n0_;have BK277:=n1_;have HB:=n2_;clear n0_ n1_ n2_;(try clear hb);(try clear hb2);(try clear hk);(try clear hi);have hcz23_0:=Up.c0 BK277;have hcz23_1:=Up.c1 BK277;have hcz23_2:=Up.c2 BK277;have hfz23_0:=blk_frozen BK277.out 0;have hfz23_1:=blk_frozen BK277.out 1;have hfz23_2:=blk_frozen BK277.out 2;have hcz24_0:=Up.c0 BK270;have hcz24_1:=Up.c1 BK270;have hcz24_2:=Up.c2 BK270;have hfz24_0:=blk_frozen BK270.out 0;have hfz24_1:=blk_frozen BK270.out 1;have hfz24_2:=blk_frozen BK270.out 2))
     go_ret
     exact Up.e1 (Up.Bx HB)
    ·replace c10:=Bool.eq_false_iff.mpr c10
     subst c10
     have H1 : (some true) = some r:=by rw [if_neg (show ¬ (false = true) by decide)] at H;exact H
     clear H
     have H:=H1
     clear H1
     obtain rfl:=Option.some.inj H
     go_enter Tryd.func9,Tryd.ntmps9
     go_wp2_with (first | ((with_reducible refine gate_callee (f:=28) rfl ?_);refine Up.gl (some 12) Tryd.func28 #[.slice A0 l0.length c0] ?_;(with_reducible refine (spec_DrawInsText.calls k _ _ l0 t267 t268 t269 _ ?side1 ?side2 A3.out).mono ?_);(case side1 => repeat (first | exact HR0.out | (with_reducible refine Kd.C_alloc ?_ _) | (with_reducible refine Kd.C_drewN ?_ _) | (with_reducible refine Kd.C_drew ?_)));(case side2 => exact HC0.out);rintro e w25 ⟨rfl,hb⟩;refine ⟨_,rfl,?_⟩;have n0_:=Up.BB HB hb;clear HB;have HB:=n0_;clear n0_;(try clear hb);(try clear hb2);(try clear hk);(try clear hi)) | ((with_reducible refine gate_dst (N:=3) rfl ?_);refine Up.bx 3 26 #[.string (⟨#[]⟩ : ByteArray),.int .i64 0,.int .i64 0] ?_;intro gb270 hg w26 hbox hb;have n0_:=Up.BB HB hb;have n1_:=Aside0.mk (hbox);have n2_:=Up.gw hg HB;have n3_:=Up.gw hg HB;clear HB;have HB:=n0_;have BK270:=n1_;have GW270:=n2_;have GE270:=n3_;clear n0_ n1_ n2_ n3_ hb hbox hg;have hcz27_0:=Up.c0 BK270;have hcz27_1:=Up.c1 BK270;have hcz27_2:=Up.c2 BK270;have hfz27_0:=blk_frozen BK270.out 0;have hfz27_1:=blk_frozen BK270.out 1;have hfz27_2:=blk_frozen BK270.out 2) | ((with_reducible refine gate_callee (f:=23) rfl ?_);refine Up.gl (some 14) Tryd.func23 #[.agg #[.string t267,.int .i64 t268,.int .i64 t269]] ?_;(with_reducible refine (impl_InsText.calls (hT_:=?tab1) k t267 t268 t269 t271 _ A4.out).mono ?_);(case tab1 => exact hT_.below (Up.Bx HB));rintro e w28 ⟨rfl,hb⟩;refine ⟨_,rfl,?_⟩;have n0_:=Aside0.mk (blk_below (g:=gb270) (o:=.cells #[.string t267,.int .i64 t268,.int .i64 t269] 26 (0,0)) (Up.Kx BK270) hb);have n1_:=Aside0.mk (below_step (Up.Bx HB) hb);clear BK270 HB;have BK270:=n0_;have HB:=n1_;clear n0_ n1_;(try clear hb);(try clear hb2);(try clear hk);(try clear hi);have hcz29_0:=Up.c0 BK270;have hcz29_1:=Up.c1 BK270;have hcz29_2:=Up.c2 BK270;have hfz29_0:=blk_frozen BK270.out 0;have hfz29_1:=blk_frozen BK270.out 1;have hfz29_2:=blk_frozen BK270.out 2) | ((with_reducible refine gate_callee (f:=22) rfl ?_);refine Up.gl (some 16) Tryd.func22 #[.agg #[.string t267,.int .i64 t268,.int .i64 t269]] ?_;(with_reducible refine (spec_InsText.calls k t267 t268 t269 t272 _ A5.out).mono ?_);rintro e w30 ⟨rfl,hb⟩;refine ⟨_,rfl,?_⟩;have n0_:=Up.KB BK270 hb;have n1_:=Aside0.mk (below_step (Up.Bx HB) hb);clear BK270 HB;have BK270:=n0_;have HB:=n1_;clear n0_ n1_;(try clear hb);(try clear hb2);(try clear hk);(try clear hi)) | ((with_reducible refine gate_callee (f:=26) rfl ?_);refine Up.gl (some 22) Tryd.func26 #[.string t271] ?_;(with_reducible refine (impl_InsRead.calls (hT_:=?tab1) k t271 t273 t274 t275 false _ A7.out).mono ?_);(case tab1 => exact hT_.below (Up.Bx HB));rintro e w31 ⟨rfl,hb⟩;refine ⟨_,rfl,?_⟩;have n0_:=Up.KB BK270 hb;have n1_:=Aside0.mk (below_step (Up.Bx HB) hb);clear BK270 HB;have BK270:=n0_;have HB:=n1_;clear n0_ n1_;(try clear hb);(try clear hb2);(try clear hk);(try clear hi)) | ((with_reducible refine gate_dst (N:=6) rfl ?_);refine Up.bx 6 26 #[.string (⟨#[]⟩ : ByteArray),.int .i64 0,.int .i64 0] ?_;intro gb277 hg w32 hbox hb;have n0_:=Up.KB BK270 hb;have n1_:=Aside0.mk (below_step (Up.Bx HB) hb);have n2_:=Aside0.mk (hbox);have n3_:=Up.gw hg HB;have n4_:=Up.gw hg HB;have n5_:=Up.nl hg BK270;have n6_:=Up.ng hg BK270;clear BK270 HB;have BK270:=n0_;have HB:=n1_;have BK277:=n2_;have GW277:=n3_;have GE277:=n4_;have NB270_277:=n5_;have NB277_270:=n6_;clear n0_ n1_ n2_ n3_ n4_ n5_ n6_ hb hbox hg;have hnb33:=NB277_270.out;have hnc33:=NB270_277.out;have hcz34_0:=Up.c0 BK277;have hcz34_1:=Up.c1 BK277;have hcz34_2:=Up.c2 BK277;have hfz34_0:=blk_frozen BK277.out 0;have hfz34_1:=blk_frozen BK277.out 1;have hfz34_2:=blk_frozen BK277.out 2;have hcz35_0:=Up.c0 BK270;have hcz35_1:=Up.c1 BK270;have hcz35_2:=Up.c2 BK270;have hfz35_0:=blk_frozen BK270.out 0;have hfz35_1:=blk_frozen BK270.out 1;have hfz35_2:=blk_frozen BK270.out 2) | ((with_reducible refine gate_callee (f:=14) rfl ?_);refine Up.gl (some 27) Tryd.func14 #[.agg #[.string t267,.int .i64 t268,.int .i64 t269]] ?_;(with_reducible refine (impl_InsOk.calls (hT_:=?tab1) k t267 t268 t269 t278 _ A8.out).mono ?_);(case tab1 => exact hT_.below (Up.Bx HB));rintro e w36 ⟨rfl,hb⟩;refine ⟨_,rfl,?_⟩;have n0_:=Aside0.mk (blk_below (g:=gb270) (o:=.cells #[.string t267,.int .i64 t268,.int .i64 t269] 26 (0,0)) (Up.Kx BK270) hb);have n1_:=Aside0.mk (blk_below (g:=gb277) (o:=.cells #[.string t273,.int .i64 t274,.int .i64 t275] 26 (0,0)) (Up.Kx BK277) hb);have n2_:=Aside0.mk (below_step (Up.Bx HB) hb);clear BK270 BK277 HB;have BK270:=n0_;have BK277:=n1_;have HB:=n2_;clear n0_ n1_ n2_;(try clear hb);(try clear hb2);(try clear hk);(try clear hi)))
     go_ret
     exact Up.e1 (Up.Bx HB)
   ·rw [if_neg c9] at H
    have c9b0 : (t276 == t278) = false:=by simpa using c9
    (try (have c9b1 : decide (t276 = t278) = false:=by simpa using c9))
    (try (have c9b2 : (t276 == t278) = false:=by simpa using c9))
    (try (have c9b3 : ¬ (t276 = t278):=by simpa using c9))
    clear c9
    obtain rfl:=Option.some.inj H
    go_enter Tryd.func9,Tryd.ntmps9
    go_wp2_with (first | ((with_reducible refine gate_callee (f:=28) rfl ?_);refine Up.gl (some 12) Tryd.func28 #[.slice A0 l0.length c0] ?_;(with_reducible refine (spec_DrawInsText.calls k _ _ l0 t267 t268 t269 _ ?side1 ?side2 A3.out).mono ?_);(case side1 => repeat (first | exact HR0.out | (with_reducible refine Kd.C_alloc ?_ _) | (with_reducible refine Kd.C_drewN ?_ _) | (with_reducible refine Kd.C_drew ?_)));(case side2 => exact HC0.out);rintro e w37 ⟨rfl,hb⟩;refine ⟨_,rfl,?_⟩;have n0_:=Up.BB HB hb;clear HB;have HB:=n0_;clear n0_;(try clear hb);(try clear hb2);(try clear hk);(try clear hi)) | ((with_reducible refine gate_dst (N:=3) rfl ?_);refine Up.bx 3 26 #[.string (⟨#[]⟩ : ByteArray),.int .i64 0,.int .i64 0] ?_;intro gb270 hg w38 hbox hb;have n0_:=Up.BB HB hb;have n1_:=Aside0.mk (hbox);have n2_:=Up.gw hg HB;have n3_:=Up.gw hg HB;clear HB;have HB:=n0_;have BK270:=n1_;have GW270:=n2_;have GE270:=n3_;clear n0_ n1_ n2_ n3_ hb hbox hg;have hcz39_0:=Up.c0 BK270;have hcz39_1:=Up.c1 BK270;have hcz39_2:=Up.c2 BK270;have hfz39_0:=blk_frozen BK270.out 0;have hfz39_1:=blk_frozen BK270.out 1;have hfz39_2:=blk_frozen BK270.out 2) | ((with_reducible refine gate_callee (f:=23) rfl ?_);refine Up.gl (some 14) Tryd.func23 #[.agg #[.string t267,.int .i64 t268,.int .i64 t269]] ?_;(with_reducible refine (impl_InsText.calls (hT_:=?tab1) k t267 t268 t269 t271 _ A4.out).mono ?_);(case tab1 => exact hT_.below (Up.Bx HB));rintro e w40 ⟨rfl,hb⟩;refine ⟨_,rfl,?_⟩;have n0_:=Aside0.mk (blk_below (g:=gb270) (o:=.cells #[.string t267,.int .i64 t268,.int .i64 t269] 26 (0,0)) (Up.Kx BK270) hb);have n1_:=Aside0.mk (below_step (Up.Bx HB) hb);clear BK270 HB;have BK270:=n0_;have HB:=n1_;clear n0_ n1_;(try clear hb);(try clear hb2);(try clear hk);(try clear hi);have hcz41_0:=Up.c0 BK270;have hcz41_1:=Up.c1 BK270;have hcz41_2:=Up.c2 BK270;have hfz41_0:=blk_frozen BK270.out 0;have hfz41_1:=blk_frozen BK270.out 1;have hfz41_2:=blk_frozen BK270.out 2) | ((with_reducible refine gate_callee (f:=22) rfl ?_);refine Up.gl (some 16) Tryd.func22 #[.agg #[.string t267,.int .i64 t268,.int .i64 t269]] ?_;(with_reducible refine (spec_InsText.calls k t267 t268 t269 t272 _ A5.out).mono ?_);rintro e w42 ⟨rfl,hb⟩;refine ⟨_,rfl,?_⟩;have n0_:=Up.KB BK270 hb;have n1_:=Aside0.mk (below_step (Up.Bx HB) hb);clear BK270 HB;have BK270:=n0_;have HB:=n1_;clear n0_ n1_;(try clear hb);(try clear hb2);(try clear hk);(try clear hi)) | ((with_reducible refine gate_callee (f:=26) rfl ?_);refine Up.gl (some 22) Tryd.func26 #[.string t271] ?_;(with_reducible refine (impl_InsRead.calls (hT_:=?tab1) k t271 t273 t274 t275 t276 _ A7.out).mono ?_);(case tab1 => exact hT_.below (Up.Bx HB));rintro e w43 ⟨rfl,hb⟩;refine ⟨_,rfl,?_⟩;have n0_:=Up.KB BK270 hb;have n1_:=Aside0.mk (below_step (Up.Bx HB) hb);clear BK270 HB;have BK270:=n0_;have HB:=n1_;clear n0_ n1_;(try clear hb);(try clear hb2);(try clear hk);(try clear hi)) | ((with_reducible refine gate_dst (N:=6) rfl ?_);refine Up.bx 6 26 #[.string (⟨#[]⟩ : ByteArray),.int .i64 0,.int .i64 0] ?_;intro gb277 hg w44 hbox hb;have n0_:=Up.KB BK270 hb;have n1_:=Aside0.mk (below_step (Up.Bx HB) hb);have n2_:=Aside0.mk (hbox);have n3_:=Up.gw hg HB;have n4_:=Up.gw hg HB;have n5_:=Up.nl hg BK270;have n6_:=Up.ng hg BK270;clear BK270 HB;have BK270:=n0_;have HB:=n1_;have BK277:=n2_;have GW277:=n3_;have GE277:=n4_;have NB270_277:=n5_;have NB277_270:=n6_;clear n0_ n1_ n2_ n3_ n4_ n5_ n6_ hb hbox hg;have hnb45:=NB277_270.out;have hnc45:=NB270_277.out;have hcz46_0:=Up.c0 BK277;have hcz46_1:=Up.c1 BK277;have hcz46_2:=Up.c2 BK277;have hfz46_0:=blk_frozen BK277.out 0;have hfz46_1:=blk_frozen BK277.out 1;have hfz46_2:=blk_frozen BK277.out 2;have hcz47_0:=Up.c0 BK270;have hcz47_1:=Up.c1 BK270;have hcz47_2:=Up.c2 BK270;have hfz47_0:=blk_frozen BK270.out 0;have hfz47_1:=blk_frozen BK270.out 1;have hfz47_2:=blk_frozen BK270.out 2) | ((with_reducible refine gate_callee (f:=14) rfl ?_);refine Up.gl (some 27) Tryd.func14 #[.agg #[.string t267,.int .i64 t268,.int .i64 t269]] ?_;(with_reducible refine (impl_InsOk.calls (hT_:=?tab1) k t267 t268 t269 t278 _ A8.out).mono ?_);(case tab1 => exact hT_.below (Up.Bx HB));rintro e w48 ⟨rfl,hb⟩;refine ⟨_,rfl,?_⟩;have n0_:=Aside0.mk (blk_below (g:=gb270) (o:=.cells #[.string t267,.int .i64 t268,.int .i64 t269] 26 (0,0)) (Up.Kx BK270) hb);have n1_:=Aside0.mk (blk_below (g:=gb277) (o:=.cells #[.string t273,.int .i64 t274,.int .i64 t275] 26 (0,0)) (Up.Kx BK277) hb);have n2_:=Aside0.mk (below_step (Up.Bx HB) hb);clear BK270 BK277 HB;have BK270:=n0_;have BK277:=n1_;have HB:=n2_;clear n0_ n1_ n2_;(try clear hb);(try clear hb2);(try clear hk);(try clear hi)))
    go_ret
    exact Up.e1 (Up.Bx HB)
  ·rw [if_neg c6] at H
   have c6b0 : (t271.toList == t272.toList) = false:=beq_eq_false_iff_ne.mpr c6
   have c6b1 : (t271.toList != t272.toList) = true:=bne_iff_ne.mpr c6
   obtain rfl:=Option.some.inj H
   go_enter Tryd.func9,Tryd.ntmps9
   go_wp2_with (first | ((with_reducible refine gate_callee (f:=28) rfl ?_);refine Up.gl (some 12) Tryd.func28 #[.slice A0 l0.length c0] ?_;(with_reducible refine (spec_DrawInsText.calls k _ _ l0 t267 t268 t269 _ ?side1 ?side2 A3.out).mono ?_);(case side1 => repeat (first | exact HR0.out | (with_reducible refine Kd.C_alloc ?_ _) | (with_reducible refine Kd.C_drewN ?_ _) | (with_reducible refine Kd.C_drew ?_)));(case side2 => exact HC0.out);rintro e w49 ⟨rfl,hb⟩;refine ⟨_,rfl,?_⟩;have n0_:=Up.BB HB hb;clear HB;have HB:=n0_;clear n0_;(try clear hb);(try clear hb2);(try clear hk);(try clear hi)) | ((with_reducible refine gate_dst (N:=3) rfl ?_);refine Up.bx 3 26 #[.string (⟨#[]⟩ : ByteArray),.int .i64 0,.int .i64 0] ?_;intro gb270 hg w50 hbox hb;have n0_:=Up.BB HB hb;have n1_:=Aside0.mk (hbox);have n2_:=Up.gw hg HB;have n3_:=Up.gw hg HB;clear HB;have HB:=n0_;have BK270:=n1_;have GW270:=n2_;have GE270:=n3_;clear n0_ n1_ n2_ n3_ hb hbox hg;have hcz51_0:=Up.c0 BK270;have hcz51_1:=Up.c1 BK270;have hcz51_2:=Up.c2 BK270;have hfz51_0:=blk_frozen BK270.out 0;have hfz51_1:=blk_frozen BK270.out 1;have hfz51_2:=blk_frozen BK270.out 2) | ((with_reducible refine gate_callee (f:=23) rfl ?_);refine Up.gl (some 14) Tryd.func23 #[.agg #[.string t267,.int .i64 t268,.int .i64 t269]] ?_;(with_reducible refine (impl_InsText.calls (hT_:=?tab1) k t267 t268 t269 t271 _ A4.out).mono ?_);(case tab1 => exact hT_.below (Up.Bx HB));rintro e w52 ⟨rfl,hb⟩;refine ⟨_,rfl,?_⟩;have n0_:=Aside0.mk (blk_below (g:=gb270) (o:=.cells #[.string t267,.int .i64 t268,.int .i64 t269] 26 (0,0)) (Up.Kx BK270) hb);have n1_:=Aside0.mk (below_step (Up.Bx HB) hb);clear BK270 HB;have BK270:=n0_;have HB:=n1_;clear n0_ n1_;(try clear hb);(try clear hb2);(try clear hk);(try clear hi);have hcz53_0:=Up.c0 BK270;have hcz53_1:=Up.c1 BK270;have hcz53_2:=Up.c2 BK270;have hfz53_0:=blk_frozen BK270.out 0;have hfz53_1:=blk_frozen BK270.out 1;have hfz53_2:=blk_frozen BK270.out 2) | ((with_reducible refine gate_callee (f:=22) rfl ?_);refine Up.gl (some 16) Tryd.func22 #[.agg #[.string t267,.int .i64 t268,.int .i64 t269]] ?_;(with_reducible refine (spec_InsText.calls k t267 t268 t269 t272 _ A5.out).mono ?_);rintro e w54 ⟨rfl,hb⟩;refine ⟨_,rfl,?_⟩;have n0_:=Up.KB BK270 hb;have n1_:=Aside0.mk (below_step (Up.Bx HB) hb);clear BK270 HB;have BK270:=n0_;have HB:=n1_;clear n0_ n1_;(try clear hb);(try clear hb2);(try clear hk);(try clear hi)))
   go_ret
   exact Up.e1 (Up.Bx HB)

/-- THE ONE PURE STATEMENT of laws_FnInsText: yours. -/
def laws_FnInsText.Pure : Prop:=∀ (l0 : List Int),l0.length ≤ maxLen → l0.length * 1 ≤ 140737488351232 → (∀ x ∈ l0,(Lit.int .u8 x).wf = true) → ∃ k,laws_FnInsText.f k l0 = some true
theorem laws_FnInsText.walk (P : laws_FnInsText.Pure) (a0 : Option Addr) (len0 cap0 : Nat) (z0 : List Int) (w : World) (hT_ : Tab w) (w0 : (a0 = none ∧ len0 = 0 ∧ cap0 = 0 ∧ z0 = []) ∨ ∃ x,a0 = some x ∧ len0 ≤ cap0 ∧ cap0 ≤ maxLen ∧ z0.length = cap0 ∧ (∀ i,i < z0.length → w.cell? (x.add i) = some (.int .u8 (z0.getD i 0))) ∧ ∀ n ∈ z0,(Lit.int .u8 n).wf = true) (y0 : len0 * 1 ≤ 140737488351232) :
  Calls Tryd.prog 9 #[.slice a0 len0 cap0] w fun e w' => e = .returned (.bool true) ∧ Below w.heap.size w w':=by
 obtain ⟨l0,rfl,hr0,hm0,hw0,hc0⟩:=ReadsInt.ofRowC w0
 obtain ⟨k,h⟩:=P l0 hm0 y0 hw0
 refine (laws_FnInsText.calls (hT_:=hT_) k _ _ l0 true w (Kd.C_of_reads (d:=(0 : Int)) (h1:=fun _ => rfl) hr0) hc0 h).mono ?_
 rintro e w' ⟨rfl,hd⟩
 exact ⟨rfl,hd⟩

end Go.Proofs.YtfkhjnmgaadomaaDoor.OFnInsText
