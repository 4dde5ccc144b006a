-- Laid by a program of this session (wip/myprint.py): the kit's print of the functions, contracts of our own among them.
import Derived.Test.YtdgmlakgnbmbbaaOFnExactVaultsOkx0
namespace Go.Proofs.Ytdgmlakgnbmbbaa.OFnExactVaultsOk
open Go.RowKit Go.Proofs.YtdgmlakgnbmbbaaW.PrintWords Go.Proofs.YtdgmlakgnbmbbaaW.PrintLast Go.Proofs.YtdgmlakgnbmbbaaW.PrintMore
attribute [local go_sem] max2_int min2_int max_two min_two max_three min_three max_four min_four   -- for this text's walks alone
set_option linter.unusedVariables false
set_option linter.unusedSimpArgs false

/-! ### spec_l1Kind: function 50 -/
def spec_l1Kind.f (a0 : ByteArray) : Option (Int × Int × Bool):=if (a0.size : Int) = 3 then (if 0 < (a0.size : Int) then (if (bt a0 0) = 83 then (if 1 < (a0.size : Int) then (if (bt a0 1) < 48 then (some (0,0,false)) else (if (bt a0 1) > 57 then (some (0,0,false)) else (if 2 < (a0.size : Int) then (if (bt a0 2) < 48 then (some (0,0,false)) else (if (bt a0 2) > 57 then (some (0,0,false)) else (some (((bt a0 1) - 48) % 256,((bt a0 2) - 48) % 256,true)))) else (none)))) else (none)) else (some (0,0,false))) else (none)) else (some (0,0,false))
set_option maxHeartbeats 8000000 in
set_option maxRecDepth 100000 in
theorem spec_l1Kind.calls (a0 : ByteArray) (r1 : Int) (r2 : Int) (r3 : Bool) (w : World) (h : spec_l1Kind.f a0 = some (r1,r2,r3)) :
  Calls Try.prog 50 #[.string a0] w fun e w' => e = .returned (.tuple #[.int .i64 r1,.int .i64 r2,.bool r3]) ∧ Drawn0 w w':=by
 have H : (if (a0.size : Int) = 3 then (if 0 < (a0.size : Int) then (if (bt a0 0) = 83 then (if 1 < (a0.size : Int) then (if (bt a0 1) < 48 then (some (0,0,false)) else (if (bt a0 1) > 57 then (some (0,0,false)) else (if 2 < (a0.size : Int) then (if (bt a0 2) < 48 then (some (0,0,false)) else (if (bt a0 2) > 57 then (some (0,0,false)) else (some (((bt a0 1) - 48) % 256,((bt a0 2) - 48) % 256,true)))) else (none)))) else (none)) else (some (0,0,false))) else (none)) else (some (0,0,false))) = some (r1,r2,r3):=h
 clear h
 by_cases c2 : (a0.size : Int) = 3
 ·rw [if_pos c2] at H
  have c2b0 : ((a0.size : Int) == 3) = true:=beq_iff_eq.mpr c2
  have c2b1 : ((a0.size : Int) != 3) = false:=bne_eq_false_iff_eq.mpr c2
  clear c2
  by_cases c3 : 0 < (a0.size : Int)
  ·rw [if_pos c3] at H
   have c3b0 : decide (0 < (a0.size : Int)) = true:=decide_eq_true c3
   have c3b1 : decide (0 < a0.size) = true:=decide_eq_true (by omega)
   clear c3
   by_cases c5 : (bt a0 0) = 83
   ·rw [if_pos c5] at H
    have c5b0 : ((bt a0 0) == 83) = true:=beq_iff_eq.mpr c5
    have c5b1 : ((bt a0 0) != 83) = false:=bne_eq_false_iff_eq.mpr c5
    clear c5
    by_cases c6 : 1 < (a0.size : Int)
    ·rw [if_pos c6] at H
     have c6b0 : decide (1 < (a0.size : Int)) = true:=decide_eq_true c6
     have c6b1 : decide (1 < a0.size) = true:=decide_eq_true (by omega)
     clear c6
     by_cases c8 : (bt a0 1) < 48
     ·rw [if_pos c8] at H
      have c8b0 : decide ((bt a0 1) < 48) = true:=decide_eq_true c8
      clear c8
      simp only [Option.some.injEq,Prod.mk.injEq] at H
      obtain ⟨rfl,rfl,rfl⟩:=H
      have p4 : 0 ≤ (0 : Int):=(by omega)
      have q4 : 0 < a0.size:=(by have : (0 : Int) < (a0.size : Int):=Up.od;omega)
      have hx4 : ∀ h : 0 < a0.size,((a0[0]'h).toNat : Int) = bt a0 0:=bt_at a0 0
      clear p4
      have qi4 : (0 < (a0.size : Int)) = True:=eq_true (Up.od)
      replace q4:=eq_true q4
      have p7 : 0 ≤ (1 : Int):=(by omega)
      have q7 : 1 < a0.size:=(by have : (1 : Int) < (a0.size : Int):=Up.od;omega)
      have hx7 : ∀ h : 1 < a0.size,((a0[1]'h).toNat : Int) = bt a0 1:=bt_at a0 1
      clear p7
      have qi7 : (1 < (a0.size : Int)) = True:=eq_true (Up.od)
      replace q7:=eq_true q7
      go_enter Try.func50,Try.ntmps50
      go_wp2
      repeat (go_quiet (fail);try go_wp2)
      go_ret3
      exact Up.e2
     ·rw [if_neg c8] at H
      have c8b0 : decide ((bt a0 1) < 48) = false:=decide_eq_false c8
      clear c8
      by_cases c10 : (bt a0 1) > 57
      ·rw [if_pos c10] at H
       have c10b0 : decide (57 < (bt a0 1)) = true:=decide_eq_true c10
       clear c10
       simp only [Option.some.injEq,Prod.mk.injEq] at H
       obtain ⟨rfl,rfl,rfl⟩:=H
       have p4 : 0 ≤ (0 : Int):=(by omega)
       have q4 : 0 < a0.size:=(by have : (0 : Int) < (a0.size : Int):=Up.od;omega)
       have hx4 : ∀ h : 0 < a0.size,((a0[0]'h).toNat : Int) = bt a0 0:=bt_at a0 0
       clear p4
       have qi4 : (0 < (a0.size : Int)) = True:=eq_true (Up.od)
       replace q4:=eq_true q4
       have p7 : 0 ≤ (1 : Int):=(by omega)
       have q7 : 1 < a0.size:=(by have : (1 : Int) < (a0.size : Int):=Up.od;omega)
       have hx7 : ∀ h : 1 < a0.size,((a0[1]'h).toNat : Int) = bt a0 1:=bt_at a0 1
       clear p7
       have qi7 : (1 < (a0.size : Int)) = True:=eq_true (Up.od)
       replace q7:=eq_true q7
       have p9 : 0 ≤ (1 : Int):=(by omega)
       have q9 : 1 < a0.size:=(by have : (1 : Int) < (a0.size : Int):=Up.od;omega)
       have hx9 : ∀ h : 1 < a0.size,((a0[1]'h).toNat : Int) = bt a0 1:=bt_at a0 1
       clear p9
       have qi9 : (1 < (a0.size : Int)) = True:=eq_true (Up.od)
       replace q9:=eq_true q9
       go_enter Try.func50,Try.ntmps50
       go_wp2
       repeat (go_quiet (fail);try go_wp2)
       go_ret3
       exact Up.e2
      ·rw [if_neg c10] at H
       have c10b0 : decide (57 < (bt a0 1)) = false:=decide_eq_false c10
       clear c10
       by_cases c11 : 2 < (a0.size : Int)
       ·rw [if_pos c11] at H
        have c11b0 : decide (2 < (a0.size : Int)) = true:=decide_eq_true c11
        have c11b1 : decide (2 < a0.size) = true:=decide_eq_true (by omega)
        clear c11
        by_cases c13 : (bt a0 2) < 48
        ·rw [if_pos c13] at H
         have c13b0 : decide ((bt a0 2) < 48) = true:=decide_eq_true c13
         clear c13
         simp only [Option.some.injEq,Prod.mk.injEq] at H
         obtain ⟨rfl,rfl,rfl⟩:=H
         have p4 : 0 ≤ (0 : Int):=(by omega)
         have q4 : 0 < a0.size:=(by have : (0 : Int) < (a0.size : Int):=Up.od;omega)
         have hx4 : ∀ h : 0 < a0.size,((a0[0]'h).toNat : Int) = bt a0 0:=bt_at a0 0
         clear p4
         have qi4 : (0 < (a0.size : Int)) = True:=eq_true (Up.od)
         replace q4:=eq_true q4
         have p7 : 0 ≤ (1 : Int):=(by omega)
         have q7 : 1 < a0.size:=(by have : (1 : Int) < (a0.size : Int):=Up.od;omega)
         have hx7 : ∀ h : 1 < a0.size,((a0[1]'h).toNat : Int) = bt a0 1:=bt_at a0 1
         clear p7
         have qi7 : (1 < (a0.size : Int)) = True:=eq_true (Up.od)
         replace q7:=eq_true q7
         have p9 : 0 ≤ (1 : Int):=(by omega)
         have q9 : 1 < a0.size:=(by have : (1 : Int) < (a0.size : Int):=Up.od;omega)
         have hx9 : ∀ h : 1 < a0.size,((a0[1]'h).toNat : Int) = bt a0 1:=bt_at a0 1
         clear p9
         have qi9 : (1 < (a0.size : Int)) = True:=eq_true (Up.od)
         replace q9:=eq_true q9
         have p12 : 0 ≤ (2 : Int):=(by omega)
         have q12 : 2 < a0.size:=(by have : (2 : Int) < (a0.size : Int):=Up.od;omega)
         have hx12 : ∀ h : 2 < a0.size,((a0[2]'h).toNat : Int) = bt a0 2:=bt_at a0 2
         clear p12
         have qi12 : (2 < (a0.size : Int)) = True:=eq_true (Up.od)
         replace q12:=eq_true q12
         go_enter Try.func50,Try.ntmps50
         go_wp2
         repeat (go_quiet (fail);try go_wp2)
         go_ret3
         exact Up.e2
        ·rw [if_neg c13] at H
         have c13b0 : decide ((bt a0 2) < 48) = false:=decide_eq_false c13
         clear c13
         by_cases c15 : (bt a0 2) > 57
         ·rw [if_pos c15] at H
          have c15b0 : decide (57 < (bt a0 2)) = true:=decide_eq_true c15
          clear c15
          simp only [Option.some.injEq,Prod.mk.injEq] at H
          obtain ⟨rfl,rfl,rfl⟩:=H
          have p4 : 0 ≤ (0 : Int):=(by omega)
          have q4 : 0 < a0.size:=(by have : (0 : Int) < (a0.size : Int):=Up.od;omega)
          have hx4 : ∀ h : 0 < a0.size,((a0[0]'h).toNat : Int) = bt a0 0:=bt_at a0 0
          clear p4
          have qi4 : (0 < (a0.size : Int)) = True:=eq_true (Up.od)
          replace q4:=eq_true q4
          have p7 : 0 ≤ (1 : Int):=(by omega)
          have q7 : 1 < a0.size:=(by have : (1 : Int) < (a0.size : Int):=Up.od;omega)
          have hx7 : ∀ h : 1 < a0.size,((a0[1]'h).toNat : Int) = bt a0 1:=bt_at a0 1
          clear p7
          have qi7 : (1 < (a0.size : Int)) = True:=eq_true (Up.od)
          replace q7:=eq_true q7
          have p9 : 0 ≤ (1 : Int):=(by omega)
          have q9 : 1 < a0.size:=(by have : (1 : Int) < (a0.size : Int):=Up.od;omega)
          have hx9 : ∀ h : 1 < a0.size,((a0[1]'h).toNat : Int) = bt a0 1:=bt_at a0 1
          clear p9
          have qi9 : (1 < (a0.size : Int)) = True:=eq_true (Up.od)
          replace q9:=eq_true q9
          have p12 : 0 ≤ (2 : Int):=(by omega)
          have q12 : 2 < a0.size:=(by have : (2 : Int) < (a0.size : Int):=Up.od;omega)
          have hx12 : ∀ h : 2 < a0.size,((a0[2]'h).toNat : Int) = bt a0 2:=bt_at a0 2
          clear p12
          have qi12 : (2 < (a0.size : Int)) = True:=eq_true (Up.od)
          replace q12:=eq_true q12
          have p14 : 0 ≤ (2 : Int):=(by omega)
          have q14 : 2 < a0.size:=(by have : (2 : Int) < (a0.size : Int):=Up.od;omega)
          have hx14 : ∀ h : 2 < a0.size,((a0[2]'h).toNat : Int) = bt a0 2:=bt_at a0 2
          clear p14
          have qi14 : (2 < (a0.size : Int)) = True:=eq_true (Up.od)
          replace q14:=eq_true q14
          go_enter Try.func50,Try.ntmps50
          go_wp2
          repeat (go_quiet (fail);try go_wp2)
          go_ret3
          exact Up.e2
         ·rw [if_neg c15] at H
          have c15b0 : decide (57 < (bt a0 2)) = false:=decide_eq_false c15
          clear c15
          simp only [Option.some.injEq,Prod.mk.injEq] at H
          obtain ⟨rfl,rfl,rfl⟩:=H
          have p4 : 0 ≤ (0 : Int):=(by omega)
          have q4 : 0 < a0.size:=(by have : (0 : Int) < (a0.size : Int):=Up.od;omega)
          have hx4 : ∀ h : 0 < a0.size,((a0[0]'h).toNat : Int) = bt a0 0:=bt_at a0 0
          clear p4
          have qi4 : (0 < (a0.size : Int)) = True:=eq_true (Up.od)
          replace q4:=eq_true q4
          have p7 : 0 ≤ (1 : Int):=(by omega)
          have q7 : 1 < a0.size:=(by have : (1 : Int) < (a0.size : Int):=Up.od;omega)
          have hx7 : ∀ h : 1 < a0.size,((a0[1]'h).toNat : Int) = bt a0 1:=bt_at a0 1
          clear p7
          have qi7 : (1 < (a0.size : Int)) = True:=eq_true (Up.od)
          replace q7:=eq_true q7
          have p9 : 0 ≤ (1 : Int):=(by omega)
          have q9 : 1 < a0.size:=(by have : (1 : Int) < (a0.size : Int):=Up.od;omega)
          have hx9 : ∀ h : 1 < a0.size,((a0[1]'h).toNat : Int) = bt a0 1:=bt_at a0 1
          clear p9
          have qi9 : (1 < (a0.size : Int)) = True:=eq_true (Up.od)
          replace q9:=eq_true q9
          have p12 : 0 ≤ (2 : Int):=(by omega)
          have q12 : 2 < a0.size:=(by have : (2 : Int) < (a0.size : Int):=Up.od;omega)
          have hx12 : ∀ h : 2 < a0.size,((a0[2]'h).toNat : Int) = bt a0 2:=bt_at a0 2
          clear p12
          have qi12 : (2 < (a0.size : Int)) = True:=eq_true (Up.od)
          replace q12:=eq_true q12
          have p14 : 0 ≤ (2 : Int):=(by omega)
          have q14 : 2 < a0.size:=(by have : (2 : Int) < (a0.size : Int):=Up.od;omega)
          have hx14 : ∀ h : 2 < a0.size,((a0[2]'h).toNat : Int) = bt a0 2:=bt_at a0 2
          clear p14
          have qi14 : (2 < (a0.size : Int)) = True:=eq_true (Up.od)
          replace q14:=eq_true q14
          have p16 : 0 ≤ (1 : Int):=(by omega)
          have q16 : 1 < a0.size:=(by have : (1 : Int) < (a0.size : Int):=Up.od;omega)
          have hx16 : ∀ h : 1 < a0.size,((a0[1]'h).toNat : Int) = bt a0 1:=bt_at a0 1
          clear p16
          have qi16 : (1 < (a0.size : Int)) = True:=eq_true (Up.od)
          replace q16:=eq_true q16
          have p17 : 0 ≤ (2 : Int):=(by omega)
          have q17 : 2 < a0.size:=(by have : (2 : Int) < (a0.size : Int):=Up.od;omega)
          have hx17 : ∀ h : 2 < a0.size,((a0[2]'h).toNat : Int) = bt a0 2:=bt_at a0 2
          clear p17
          have qi17 : (2 < (a0.size : Int)) = True:=eq_true (Up.od)
          replace q17:=eq_true q17
          go_enter Try.func50,Try.ntmps50
          go_wp2
          repeat (go_quiet (fail);try go_wp2)
          go_ret3
          exact Up.e2
       ·rw [if_neg c11] at H
        exact absurd H (by simp)
    ·rw [if_neg c6] at H
     exact absurd H (by simp)
   ·rw [if_neg c5] at H
    have c5b0 : ((bt a0 0) == 83) = false:=beq_eq_false_iff_ne.mpr c5
    have c5b1 : ((bt a0 0) != 83) = true:=bne_iff_ne.mpr c5
    simp only [Option.some.injEq,Prod.mk.injEq] at H
    obtain ⟨rfl,rfl,rfl⟩:=H
    have p4 : 0 ≤ (0 : Int):=(by omega)
    have q4 : 0 < a0.size:=(by have : (0 : Int) < (a0.size : Int):=Up.od;omega)
    have hx4 : ∀ h : 0 < a0.size,((a0[0]'h).toNat : Int) = bt a0 0:=bt_at a0 0
    clear p4
    have qi4 : (0 < (a0.size : Int)) = True:=eq_true (Up.od)
    replace q4:=eq_true q4
    go_enter Try.func50,Try.ntmps50
    go_wp2
    repeat (go_quiet (fail);try go_wp2)
    go_ret3
    exact Up.e2
  ·rw [if_neg c3] at H
   exact absurd H (by simp)
 ·rw [if_neg c2] at H
  have c2b0 : ((a0.size : Int) == 3) = false:=beq_eq_false_iff_ne.mpr c2
  have c2b1 : ((a0.size : Int) != 3) = true:=bne_iff_ne.mpr c2
  simp only [Option.some.injEq,Prod.mk.injEq] at H
  obtain ⟨rfl,rfl,rfl⟩:=H
  go_enter Try.func50,Try.ntmps50
  go_wp2
  repeat (go_quiet (fail);try go_wp2)
  go_ret3
  exact Up.e2

/-! ### spec_l1Ref: function 119 -/
def spec_l1Ref.f (a0 : ByteArray) : Option (Bool):=if (a0.size : Int) > 0 then (if 0 < (a0.size : Int) then (if (bt a0 0) = 38 then (some true) else (some ((bt a0 0) == 33))) else (none)) else (some false)
set_option maxHeartbeats 8000000 in
set_option maxRecDepth 100000 in
theorem spec_l1Ref.calls (a0 : ByteArray) (r : Bool) (w : World) (h : spec_l1Ref.f a0 = some r) :
  Calls Try.prog 119 #[.string a0] w fun e w' => e = .returned (.bool r) ∧ Drawn0 w w':=by
 have H : (if (a0.size : Int) > 0 then (if 0 < (a0.size : Int) then (if (bt a0 0) = 38 then (some true) else (some ((bt a0 0) == 33))) else (none)) else (some false)) = some r:=h
 clear h
 by_cases c2 : (a0.size : Int) > 0
 ·rw [if_pos c2] at H
  have c2b0 : decide (0 < (a0.size : Int)) = true:=decide_eq_true c2
  have c2b1 : decide (0 < a0.size) = true:=decide_eq_true (by omega)
  clear c2
  by_cases c3 : 0 < (a0.size : Int)
  ·rw [if_pos c3] at H
   have c3b0 : decide (0 < (a0.size : Int)) = true:=decide_eq_true c3
   have c3b1 : decide (0 < a0.size) = true:=decide_eq_true (by omega)
   clear c3
   by_cases c5 : (bt a0 0) = 38
   ·rw [if_pos c5] at H
    have c5b0 : ((bt a0 0) == 38) = true:=beq_iff_eq.mpr c5
    have c5b1 : ((bt a0 0) != 38) = false:=bne_eq_false_iff_eq.mpr c5
    clear c5
    obtain rfl:=Option.some.inj H
    have p4 : 0 ≤ (0 : Int):=(by omega)
    have q4 : 0 < a0.size:=(by have : (0 : Int) < (a0.size : Int):=Up.od;omega)
    have hx4 : ∀ h : 0 < a0.size,((a0[0]'h).toNat : Int) = bt a0 0:=bt_at a0 0
    clear p4
    have qi4 : (0 < (a0.size : Int)) = True:=eq_true (Up.od)
    replace q4:=eq_true q4
    go_enter Try.func119,Try.ntmps119
    go_wp2
    go_ret
    exact Up.e2
   ·rw [if_neg c5] at H
    have c5b0 : ((bt a0 0) == 38) = false:=beq_eq_false_iff_ne.mpr c5
    have c5b1 : ((bt a0 0) != 38) = true:=bne_iff_ne.mpr c5
    obtain rfl:=Option.some.inj H
    have p4 : 0 ≤ (0 : Int):=(by omega)
    have q4 : 0 < a0.size:=(by have : (0 : Int) < (a0.size : Int):=Up.od;omega)
    have hx4 : ∀ h : 0 < a0.size,((a0[0]'h).toNat : Int) = bt a0 0:=bt_at a0 0
    clear p4
    have qi4 : (0 < (a0.size : Int)) = True:=eq_true (Up.od)
    replace q4:=eq_true q4
    have p6 : 0 ≤ (0 : Int):=(by omega)
    have q6 : 0 < a0.size:=(by have : (0 : Int) < (a0.size : Int):=Up.od;omega)
    have hx6 : ∀ h : 0 < a0.size,((a0[0]'h).toNat : Int) = bt a0 0:=bt_at a0 0
    clear p6
    have qi6 : (0 < (a0.size : Int)) = True:=eq_true (Up.od)
    replace q6:=eq_true q6
    go_enter Try.func119,Try.ntmps119
    go_wp2
    go_ret
    exact Up.e2
  ·rw [if_neg c3] at H
   exact absurd H (by simp)
 ·rw [if_neg c2] at H
  have c2b0 : decide (0 < (a0.size : Int)) = false:=decide_eq_false c2
  have c2b1 : decide (0 < a0.size) = false:=decide_eq_false (by omega)
  clear c2
  obtain rfl:=Option.some.inj H
  go_enter Try.func119,Try.ntmps119
  go_wp2
  go_ret
  exact Up.e2

/-! ### spec_l1Able: function 101 -/
def spec_l1Able.j0 : Nat → List (List (S113)) → ByteArray → Bool → Option (Int)
 | 0,_,_,_ => none
 | k + 1,x0,x1,x14 => if x14 = true then (some 3) else ((spec_l1Ref.f x1).bind fun t206 => (if t206 = true then (some 2) else ((spec_l1Kind.f x1).bind fun bt207 => (if bt207.2.2 = true then (if 0 ≤ bt207.1 then (if bt207.1 < (x0.length : Int) then (if 0 ≤ bt207.2.1 then (if bt207.2.1 < ((rd_L6 x0 bt207.1).length : Int) then (some ((rd_T113 (rd_L6 x0 bt207.1) bt207.2.1).f0)) else (none)) else (none)) else (none)) else (none)) else (some 7)))))
def spec_l1Able.f (k : Nat) (l0 : List (List (S113))) (a1 : ByteArray) : Option (Int):=(spec_l1Ref.f a1).bind fun t205 => (if t205 = true then (if 0 < (a1.size : Int) then (spec_l1Able.j0 k l0 a1 ((bt a1 0) == 38)) else (none)) else (spec_l1Able.j0 k l0 a1 false))
theorem spec_l1Able.mono_l : ∀ k,(∀ y0 y1 y2,LeO (spec_l1Able.j0 k y0 y1 y2) (spec_l1Able.j0 (k + 1) y0 y1 y2))
 | 0 => fun _ _ _ r h => by simp [spec_l1Able.j0] at h
 | k + 1 => by
  have ih0:=spec_l1Able.mono_l k
  ·intro y0 y1 y2
   unfold spec_l1Able.j0
   repeat' first
   | (with_reducible exact ih0 _ _ _)
   | (with_reducible exact LeO.refl _)
   | (with_reducible exact LeO.none _)
   | (with_reducible refine LeO.ite ?_ ?_)
   | (with_reducible refine LeO.bind ?_ (fun _ => ?_))
   | exact ih0 _ _ _
   | exact LeO.none _
   | refine LeO.ite ?_ ?_
   | refine LeO.bind ?_ (fun _ => ?_)
theorem spec_l1Able.mono : ∀ a0 a1 k,LeO (spec_l1Able.f k a0 a1) (spec_l1Able.f (k + 1) a0 a1):=by
 intro a0 a1 k
 have ih0:=spec_l1Able.mono_l k
 unfold spec_l1Able.f
 repeat' first
   | (with_reducible exact ih0 _ _ _)
   | (with_reducible exact LeO.refl _)
   | (with_reducible exact LeO.none _)
   | (with_reducible refine LeO.ite ?_ ?_)
   | (with_reducible refine LeO.bind ?_ (fun _ => ?_))
   | exact ih0 _ _ _
   | exact LeO.none _
   | refine LeO.ite ?_ ?_
   | refine LeO.bind ?_ (fun _ => ?_)
set_option maxHeartbeats 8000000 in
set_option maxRecDepth 100000 in
theorem spec_l1Able.calls (k : Nat) (A0 : Option Addr) (c0 : Nat) (l0 : List (List (S113))) (a1 : ByteArray) (r : Int) (w : World) (hr0 : Kd.C (Kd.slice 113 k113) w A0 l0.length l0) (hc0 : l0.length ≤ c0) (h : spec_l1Able.f k l0 a1 = some r) :
  Calls Try.prog 101 #[.slice A0 l0.length c0,.string a1] w fun e w' => e = .returned (.int .i64 r) ∧ Drawn0 w w':=by
 have HR0:=Aside0.mk hr0
 have HC0:=Aside0.mk hc0
 clear hr0 hc0
 have H : ((spec_l1Ref.f a1).bind fun t205 => (if t205 = true then (if 0 < (a1.size : Int) then (spec_l1Able.j0 k l0 a1 ((bt a1 0) == 38)) else (none)) else (spec_l1Able.j0 k l0 a1 false))) = some r:=h
 clear h
 have HC3:=Aside0.mk H
 clear H
 go_enter Try.func101,Try.ntmps101
 go_upto_region 1 with (fail)
 go_cut [14] (fun v14 wc => ∃ (kq : Nat) (x14_2 : Bool),v14 = .bool x14_2 ∧ Aside0 (spec_l1Able.j0 kq l0 a1 x14_2 = some r) ∧ Aside0 (kq ≤ k) ∧ Drawn0 w wc)
 case first =>
  have H:=HC3.out
  clear HC3
  replace H:=Option.bind_eq_some_iff.mp H
  obtain ⟨t205,A40,H⟩:=H
  replace H : (if t205 = true then (if 0 < (a1.size : Int) then (spec_l1Able.j0 k l0 a1 ((bt a1 0) == 38)) else (none)) else (spec_l1Able.j0 k l0 a1 false)) = some r:=H
  have A4:=Aside0.mk A40
  clear A40
  by_cases c5 : t205 = true
  ·subst c5
   have H1 : (if 0 < (a1.size : Int) then (spec_l1Able.j0 k l0 a1 ((bt a1 0) == 38)) else (none)) = some r:=by rw [if_pos rfl] at H;exact H
   clear H
   have H:=H1
   clear H1
   by_cases c6 : 0 < (a1.size : Int)
   ·rw [if_pos c6] at H
    have c6b0 : decide (0 < (a1.size : Int)) = true:=decide_eq_true c6
    have c6b1 : decide (0 < a1.size) = true:=decide_eq_true (by omega)
    clear c6
    (first | rw [c6b0] | (simp only [i64_w,i32_w];rw [c6b0]) | skip)
    have H':=Aside0.mk H
    clear H
    go_wp2_with (first | ((with_reducible refine gate_callee (f:=119) rfl ?_);refine Up.gl (some 9) Try.func119 #[.string a1] ?_;(with_reducible refine (spec_l1Ref.calls a1 true _ A4.out).mono ?_);rintro e w' ⟨rfl,⟨nd,rfl⟩⟩;refine ⟨_,rfl,?_⟩;have p7 : 0 ≤ (0 : Int):=(by omega);have q7 : 0 < a1.size:=(by have : (0 : Int) < (a1.size : Int):=Up.od;omega);have hx7 : ∀ h : 0 < a1.size,((a1[0]'h).toNat : Int) = bt a1 0:=bt_at a1 0;clear p7;have qi7 : (0 < (a1.size : Int)) = True:=eq_true (Up.od);replace q7:=eq_true q7))
    go_meet
    case rel => exact ⟨_,(((bt a1 0) == 38)),(by first | rfl | (simp;done) | (simp [*];done)),H',⟨by first | omega | exact Nat.le_refl _⟩,by repeat (first | exact Drawn0.refl _ | apply Drawn0.step)⟩
   ·rw [if_neg c6] at H
    exact absurd H (by simp)
  ·replace c5:=Bool.eq_false_iff.mpr c5
   subst c5
   have H1 : (spec_l1Able.j0 k l0 a1 false) = some r:=by rw [if_neg (show ¬ (false = true) by decide)] at H;exact H
   clear H
   have H:=H1
   clear H1
   have H':=Aside0.mk H
   clear H
   go_wp2_with (first | ((with_reducible refine gate_callee (f:=119) rfl ?_);refine Up.gl (some 9) Try.func119 #[.string a1] ?_;(with_reducible refine (spec_l1Ref.calls a1 false _ A4.out).mono ?_);rintro e w' ⟨rfl,⟨nd,rfl⟩⟩;refine ⟨_,rfl,?_⟩))
   go_meet
   case rel => exact ⟨_,(false),(by first | rfl | (simp;done) | (simp [*];done)),H',⟨by first | omega | exact Nat.le_refl _⟩,by repeat (first | exact Drawn0.refl _ | apply Drawn0.step)⟩
 case rest =>
  clear HC3
  try clear c1
  try clear p2
  try clear c5
  try clear c6
  try clear c6b0
  try clear c6b1
  try clear p7
  try clear q7
  try clear hx7
  try clear qi7
  try clear p7
  try clear q7
  obtain ⟨kq,x14_2,rfl,HA,HJ2,⟨mc2,rfl⟩⟩:=hcut
  cases kq with
  | zero => exact absurd HA.out (by simp [spec_l1Able.j0])
  | succ kj2 =>
   have H:=HA.out
   clear HA
   simp only [spec_l1Able.j0] at H
   by_cases c8 : x14_2 = true
   ·subst c8
    have H1 : (some 3) = some r:=by rw [if_pos rfl] at H;exact H
    clear H
    have H:=H1
    clear H1
    obtain rfl:=Option.some.inj H
    go_wp2
    go_ret
    exact Up.e2
   ·replace c8:=Bool.eq_false_iff.mpr c8
    subst c8
    have H1 : ((spec_l1Ref.f a1).bind fun t206 => (if t206 = true then (some 2) else ((spec_l1Kind.f a1).bind fun bt207 => (if bt207.2.2 = true then (if 0 ≤ bt207.1 then (if bt207.1 < (l0.length : Int) then (if 0 ≤ bt207.2.1 then (if bt207.2.1 < ((rd_L6 l0 bt207.1).length : Int) then (some ((rd_T113 (rd_L6 l0 bt207.1) bt207.2.1).f0)) else (none)) else (none)) else (none)) else (none)) else (some 7))))) = some r:=by rw [if_neg (show ¬ (false = true) by decide)] at H;exact H
    clear H
    have H:=H1
    clear H1
    replace H:=Option.bind_eq_some_iff.mp H
    obtain ⟨t206,A90,H⟩:=H
    replace H : (if t206 = true then (some 2) else ((spec_l1Kind.f a1).bind fun bt207 => (if bt207.2.2 = true then (if 0 ≤ bt207.1 then (if bt207.1 < (l0.length : Int) then (if 0 ≤ bt207.2.1 then (if bt207.2.1 < ((rd_L6 l0 bt207.1).length : Int) then (some ((rd_T113 (rd_L6 l0 bt207.1) bt207.2.1).f0)) else (none)) else (none)) else (none)) else (none)) else (some 7)))) = some r:=H
    have A9:=Aside0.mk A90
    clear A90
    by_cases c10 : t206 = true
    ·subst c10
     have H1 : (some 2) = some r:=by rw [if_pos rfl] at H;exact H
     clear H
     have H:=H1
     clear H1
     obtain rfl:=Option.some.inj H
     go_wp2_with (first | ((with_reducible refine gate_callee (f:=119) rfl ?_);refine Up.gl (some 16) Try.func119 #[.string a1] ?_;(with_reducible refine (spec_l1Ref.calls a1 true _ A9.out).mono ?_);rintro e w' ⟨rfl,⟨nd,rfl⟩⟩;refine ⟨_,rfl,?_⟩))
     go_ret
     exact Up.e2
    ·replace c10:=Bool.eq_false_iff.mpr c10
     subst c10
     have H1 : ((spec_l1Kind.f a1).bind fun bt207 => (if bt207.2.2 = true then (if 0 ≤ bt207.1 then (if bt207.1 < (l0.length : Int) then (if 0 ≤ bt207.2.1 then (if bt207.2.1 < ((rd_L6 l0 bt207.1).length : Int) then (some ((rd_T113 (rd_L6 l0 bt207.1) bt207.2.1).f0)) else (none)) else (none)) else (none)) else (none)) else (some 7))) = some r:=by rw [if_neg (show ¬ (false = true) by decide)] at H;exact H
     clear H
     have H:=H1
     clear H1
     replace H:=Option.bind_eq_some_iff.mp H
     obtain ⟨⟨t207,t208,t209⟩,A110,H⟩:=H
     replace H : (if t209 = true then (if 0 ≤ t207 then (if t207 < (l0.length : Int) then (if 0 ≤ t208 then (if t208 < ((rd_L6 l0 t207).length : Int) then (some ((rd_T113 (rd_L6 l0 t207) t208).f0)) else (none)) else (none)) else (none)) else (none)) else (some 7)) = some r:=H
     have A11:=Aside0.mk A110
     clear A110
     by_cases c12 : t209 = true
     ·subst c12
      have H1 : (if 0 ≤ t207 then (if t207 < (l0.length : Int) then (if 0 ≤ t208 then (if t208 < ((rd_L6 l0 t207).length : Int) then (some ((rd_T113 (rd_L6 l0 t207) t208).f0)) else (none)) else (none)) else (none)) else (none)) = some r:=by rw [if_pos rfl] at H;exact H
      clear H
      have H:=H1
      clear H1
      by_cases c13 : 0 ≤ t207
      ·rw [if_pos c13] at H
       have c13b0 : decide (0 ≤ t207) = true:=decide_eq_true c13
       clear c13
       by_cases c14 : t207 < (l0.length : Int)
       ·rw [if_pos c14] at H
        have c14b0 : decide (t207 < (l0.length : Int)) = true:=decide_eq_true c14
        clear c14
        by_cases c15 : 0 ≤ t208
        ·rw [if_pos c15] at H
         have c15b0 : decide (0 ≤ t208) = true:=decide_eq_true c15
         clear c15
         by_cases c16 : t208 < ((rd_L6 l0 t207).length : Int)
         ·rw [if_pos c16] at H
          have c16b0 : decide (t208 < ((rd_L6 l0 t207).length : Int)) = true:=decide_eq_true c16
          clear c16
          obtain rfl:=Option.some.inj H
          go_wp2_with (first | ((with_reducible refine gate_callee (f:=119) rfl ?_);refine Up.gl (some 16) Try.func119 #[.string a1] ?_;(with_reducible refine (spec_l1Ref.calls a1 false _ A9.out).mono ?_);rintro e w' ⟨rfl,⟨nd,rfl⟩⟩;refine ⟨_,rfl,?_⟩) | ((with_reducible refine gate_callee (f:=50) rfl ?_);refine Up.gl (some 19) Try.func50 #[.string a1] ?_;(with_reducible refine (spec_l1Kind.calls a1 t207 t208 true _ A11.out).mono ?_);rintro e w' ⟨rfl,⟨nd,rfl⟩⟩;refine ⟨_,rfl,?_⟩;have p210 : 0 ≤ (t207 : Int):=Up.od;have q210 : t207 < (l0.length : Int):=Up.od;obtain ⟨ad210,A210_0,c210_0,e210,hx210_0,hl210_0,hi210_0⟩:=at_L6 HR0.out t207 p210 q210;cases e210;have HR210_0:=Aside0.mk hi210_0;have HC210_0:=Aside0.mk hl210_0;clear hi210_0 hl210_0;replace p210:=eq_true p210;replace q210:=eq_true q210;have p211 : 0 ≤ (t208 : Int):=Up.od;have q211 : t208 < ((rd_L6 l0 t207).length : Int):=Up.od;obtain ⟨ad211,A211_1,c211_1,e211,hx211_0,hx211_1,hl211_1,hi211_1⟩:=at_T113 HR210_0.out t208 p211 q211;cases e211;have HR211_1:=Aside0.mk hi211_1;have HC211_1:=Aside0.mk hl211_1;clear hi211_1 hl211_1;replace p211:=eq_true p211;replace q211:=eq_true q211))
          go_ret
          exact Up.e2
         ·rw [if_neg c16] at H
          exact absurd H (by simp)
        ·rw [if_neg c15] at H
         exact absurd H (by simp)
       ·rw [if_neg c14] at H
        exact absurd H (by simp)
      ·rw [if_neg c13] at H
       exact absurd H (by simp)
     ·replace c12:=Bool.eq_false_iff.mpr c12
      subst c12
      have H1 : (some 7) = some r:=by rw [if_neg (show ¬ (false = true) by decide)] at H;exact H
      clear H
      have H:=H1
      clear H1
      obtain rfl:=Option.some.inj H
      go_wp2_with (first | ((with_reducible refine gate_callee (f:=119) rfl ?_);refine Up.gl (some 16) Try.func119 #[.string a1] ?_;(with_reducible refine (spec_l1Ref.calls a1 false _ A9.out).mono ?_);rintro e w' ⟨rfl,⟨nd,rfl⟩⟩;refine ⟨_,rfl,?_⟩) | ((with_reducible refine gate_callee (f:=50) rfl ?_);refine Up.gl (some 19) Try.func50 #[.string a1] ?_;(with_reducible refine (spec_l1Kind.calls a1 t207 t208 false _ A11.out).mono ?_);rintro e w' ⟨rfl,⟨nd,rfl⟩⟩;refine ⟨_,rfl,?_⟩))
      go_ret
      exact Up.e2

/-! ### spec_l1Has: function 87 -/
def spec_l1Has.f (l0 : List (List (S113))) (a1 : Int) (a2 : Int) : Option (Bool):=if a1 < (l0.length : Int) then (if 0 ≤ a1 then (some (decide (a2 < ((rd_L6 l0 a1).length : Int)))) else (none)) else (some false)
set_option maxHeartbeats 8000000 in
set_option maxRecDepth 100000 in
theorem spec_l1Has.calls (A0 : Option Addr) (c0 : Nat) (l0 : List (List (S113))) (a1 : Int) (a2 : Int) (r : Bool) (w : World) (hr0 : Kd.C (Kd.slice 113 k113) w A0 l0.length l0) (hc0 : l0.length ≤ c0) (h : spec_l1Has.f l0 a1 a2 = some r) :
  Calls Try.prog 87 #[.slice A0 l0.length c0,.int .i64 a1,.int .i64 a2] w fun e w' => e = .returned (.bool r) ∧ Drawn0 w w':=by
 have HR0:=Aside0.mk hr0
 have HC0:=Aside0.mk hc0
 clear hr0 hc0
 have H : (if a1 < (l0.length : Int) then (if 0 ≤ a1 then (some (decide (a2 < ((rd_L6 l0 a1).length : Int)))) else (none)) else (some false)) = some r:=h
 clear h
 by_cases c4 : a1 < (l0.length : Int)
 ·rw [if_pos c4] at H
  have c4b0 : decide (a1 < (l0.length : Int)) = true:=decide_eq_true c4
  clear c4
  by_cases c5 : 0 ≤ a1
  ·rw [if_pos c5] at H
   have c5b0 : decide (0 ≤ a1) = true:=decide_eq_true c5
   clear c5
   obtain rfl:=Option.some.inj H
   have p212 : 0 ≤ (a1 : Int):=Up.od
   have q212 : a1 < (l0.length : Int):=Up.od
   obtain ⟨ad212,A212_0,c212_0,e212,hx212_0,hl212_0,hi212_0⟩:=at_L6 HR0.out a1 p212 q212
   cases e212
   have HR212_0:=Aside0.mk hi212_0
   have HC212_0:=Aside0.mk hl212_0
   clear hi212_0 hl212_0
   replace p212:=eq_true p212
   replace q212:=eq_true q212
   go_enter Try.func87,Try.ntmps87
   go_wp2
   go_ret
   exact Up.e2
  ·rw [if_neg c5] at H
   exact absurd H (by simp)
 ·rw [if_neg c4] at H
  have c4b0 : decide (a1 < (l0.length : Int)) = false:=decide_eq_false c4
  clear c4
  obtain rfl:=Option.some.inj H
  go_enter Try.func87,Try.ntmps87
  go_wp2
  go_ret
  exact Up.e2

/-! ### spec_l1Base: function 93 -/
def spec_l1Base.f (a0 : ByteArray) : Option (Bool):=if a0.toList = ([110] : List UInt8) then (some true) else (if a0.toList = ([98] : List UInt8) then (some true) else (some (a0.toList == ([111] : List UInt8))))
set_option maxHeartbeats 8000000 in
set_option maxRecDepth 100000 in
theorem spec_l1Base.calls (a0 : ByteArray) (r : Bool) (w : World) (h : spec_l1Base.f a0 = some r) :
  Calls Try.prog 93 #[.string a0] w fun e w' => e = .returned (.bool r) ∧ Drawn0 w w':=by
 have H : (if a0.toList = ([110] : List UInt8) then (some true) else (if a0.toList = ([98] : List UInt8) then (some true) else (some (a0.toList == ([111] : List UInt8))))) = some r:=h
 clear h
 by_cases c2 : a0.toList = ([110] : List UInt8)
 ·rw [if_pos c2] at H
  have c2b0 : (a0.toList == ([110] : List UInt8)) = true:=beq_iff_eq.mpr c2
  have c2b1 : (a0.toList != ([110] : List UInt8)) = false:=bne_eq_false_iff_eq.mpr c2
  clear c2
  obtain rfl:=Option.some.inj H
  go_enter Try.func93,Try.ntmps93
  go_wp2
  go_ret
  exact Up.e2
 ·rw [if_neg c2] at H
  have c2b0 : (a0.toList == ([110] : List UInt8)) = false:=beq_eq_false_iff_ne.mpr c2
  have c2b1 : (a0.toList != ([110] : List UInt8)) = true:=bne_iff_ne.mpr c2
  by_cases c3 : a0.toList = ([98] : List UInt8)
  ·rw [if_pos c3] at H
   have c3b0 : (a0.toList == ([98] : List UInt8)) = true:=beq_iff_eq.mpr c3
   have c3b1 : (a0.toList != ([98] : List UInt8)) = false:=bne_eq_false_iff_eq.mpr c3
   clear c3
   obtain rfl:=Option.some.inj H
   go_enter Try.func93,Try.ntmps93
   go_wp2
   go_ret
   exact Up.e2
  ·rw [if_neg c3] at H
   have c3b0 : (a0.toList == ([98] : List UInt8)) = false:=beq_eq_false_iff_ne.mpr c3
   have c3b1 : (a0.toList != ([98] : List UInt8)) = true:=bne_iff_ne.mpr c3
   obtain rfl:=Option.some.inj H
   go_enter Try.func93,Try.ntmps93
   go_wp2
   go_ret
   exact Up.e2

/-! ### spec_l1Field: function 125 -/
def spec_l1Field.f (l0 : List (List (S113))) (a1 : Int) (a2 : Int) (a3 : ByteArray) : Option (Bool):=(spec_l1Kind.f a3).bind fun bt213 => (if bt213.2.2 = true then ((spec_l1Has.f l0 bt213.1 bt213.2.1).bind fun t216 => (if t216 = true then (if bt213.1 < a1 then (some true) else (if bt213.1 = a1 then (some (decide (bt213.2.1 < a2))) else (some false))) else (some false))) else ((spec_l1Base.f a3).bind fun t217 => (some t217)))
set_option maxHeartbeats 8000000 in
set_option maxRecDepth 100000 in
theorem spec_l1Field.calls (A0 : Option Addr) (c0 : Nat) (l0 : List (List (S113))) (a1 : Int) (a2 : Int) (a3 : ByteArray) (r : Bool) (w : World) (hr0 : Kd.C (Kd.slice 113 k113) w A0 l0.length l0) (hc0 : l0.length ≤ c0) (h : spec_l1Field.f l0 a1 a2 a3 = some r) :
  Calls Try.prog 125 #[.slice A0 l0.length c0,.int .i64 a1,.int .i64 a2,.string a3] w fun e w' => e = .returned (.bool r) ∧ Drawn0 w w':=by
 have HR0:=Aside0.mk hr0
 have HC0:=Aside0.mk hc0
 clear hr0 hc0
 have H : ((spec_l1Kind.f a3).bind fun bt213 => (if bt213.2.2 = true then ((spec_l1Has.f l0 bt213.1 bt213.2.1).bind fun t216 => (if t216 = true then (if bt213.1 < a1 then (some true) else (if bt213.1 = a1 then (some (decide (bt213.2.1 < a2))) else (some false))) else (some false))) else ((spec_l1Base.f a3).bind fun t217 => (some t217)))) = some r:=h
 clear h
 replace H:=Option.bind_eq_some_iff.mp H
 obtain ⟨⟨t213,t214,t215⟩,A50,H⟩:=H
 replace H : (if t215 = true then ((spec_l1Has.f l0 t213 t214).bind fun t216 => (if t216 = true then (if t213 < a1 then (some true) else (if t213 = a1 then (some (decide (t214 < a2))) else (some false))) else (some false))) else ((spec_l1Base.f a3).bind fun t217 => (some t217))) = some r:=H
 have A5:=Aside0.mk A50
 clear A50
 by_cases c6 : t215 = true
 ·subst c6
  have H1 : ((spec_l1Has.f l0 t213 t214).bind fun t216 => (if t216 = true then (if t213 < a1 then (some true) else (if t213 = a1 then (some (decide (t214 < a2))) else (some false))) else (some false))) = some r:=by rw [if_pos rfl] at H;exact H
  clear H
  have H:=H1
  clear H1
  replace H:=Option.bind_eq_some_iff.mp H
  obtain ⟨t216,A70,H⟩:=H
  replace H : (if t216 = true then (if t213 < a1 then (some true) else (if t213 = a1 then (some (decide (t214 < a2))) else (some false))) else (some false)) = some r:=H
  have A7:=Aside0.mk A70
  clear A70
  by_cases c8 : t216 = true
  ·subst c8
   have H1 : (if t213 < a1 then (some true) else (if t213 = a1 then (some (decide (t214 < a2))) else (some false))) = some r:=by rw [if_pos rfl] at H;exact H
   clear H
   have H:=H1
   clear H1
   by_cases c9 : t213 < a1
   ·rw [if_pos c9] at H
    have c9b0 : decide (t213 < a1) = true:=decide_eq_true c9
    clear c9
    obtain rfl:=Option.some.inj H
    go_enter Try.func125,Try.ntmps125
    go_wp2_with (first | ((with_reducible refine gate_callee (f:=50) rfl ?_);refine Up.gl (some 14) Try.func50 #[.string a3] ?_;(with_reducible refine (spec_l1Kind.calls a3 t213 t214 true _ A5.out).mono ?_);rintro e w' ⟨rfl,⟨nd,rfl⟩⟩;refine ⟨_,rfl,?_⟩) | ((with_reducible refine gate_callee (f:=87) rfl ?_);refine Up.gl (some 25) Try.func87 #[.slice A0 l0.length c0,.int .i64 t213,.int .i64 t214] ?_;(with_reducible refine (spec_l1Has.calls _ _ l0 t213 t214 true _ ?side1 ?side2 A7.out).mono ?_);(case side1 => repeat (first | exact HR0.out | (with_reducible refine Kd.C_alloc ?_ _) | (with_reducible refine Kd.C_drewN ?_ _) | (with_reducible refine Kd.C_drew ?_)));(case side2 => exact HC0.out);rintro e w' ⟨rfl,⟨nd,rfl⟩⟩;refine ⟨_,rfl,?_⟩))
    go_ret
    exact Up.e2
   ·rw [if_neg c9] at H
    have c9b0 : decide (t213 < a1) = false:=decide_eq_false c9
    clear c9
    by_cases c10 : t213 = a1
    ·rw [if_pos c10] at H
     have c10b0 : (t213 == a1) = true:=beq_iff_eq.mpr c10
     have c10b1 : (t213 != a1) = false:=bne_eq_false_iff_eq.mpr c10
     clear c10
     obtain rfl:=Option.some.inj H
     go_enter Try.func125,Try.ntmps125
     go_wp2_with (first | ((with_reducible refine gate_callee (f:=50) rfl ?_);refine Up.gl (some 14) Try.func50 #[.string a3] ?_;(with_reducible refine (spec_l1Kind.calls a3 t213 t214 true _ A5.out).mono ?_);rintro e w' ⟨rfl,⟨nd,rfl⟩⟩;refine ⟨_,rfl,?_⟩) | ((with_reducible refine gate_callee (f:=87) rfl ?_);refine Up.gl (some 25) Try.func87 #[.slice A0 l0.length c0,.int .i64 t213,.int .i64 t214] ?_;(with_reducible refine (spec_l1Has.calls _ _ l0 t213 t214 true _ ?side1 ?side2 A7.out).mono ?_);(case side1 => repeat (first | exact HR0.out | (with_reducible refine Kd.C_alloc ?_ _) | (with_reducible refine Kd.C_drewN ?_ _) | (with_reducible refine Kd.C_drew ?_)));(case side2 => exact HC0.out);rintro e w' ⟨rfl,⟨nd,rfl⟩⟩;refine ⟨_,rfl,?_⟩))
     go_ret
     exact Up.e2
    ·rw [if_neg c10] at H
     have c10b0 : (t213 == a1) = false:=beq_eq_false_iff_ne.mpr c10
     have c10b1 : (t213 != a1) = true:=bne_iff_ne.mpr c10
     obtain rfl:=Option.some.inj H
     go_enter Try.func125,Try.ntmps125
     go_wp2_with (first | ((with_reducible refine gate_callee (f:=50) rfl ?_);refine Up.gl (some 14) Try.func50 #[.string a3] ?_;(with_reducible refine (spec_l1Kind.calls a3 t213 t214 true _ A5.out).mono ?_);rintro e w' ⟨rfl,⟨nd,rfl⟩⟩;refine ⟨_,rfl,?_⟩) | ((with_reducible refine gate_callee (f:=87) rfl ?_);refine Up.gl (some 25) Try.func87 #[.slice A0 l0.length c0,.int .i64 t213,.int .i64 t214] ?_;(with_reducible refine (spec_l1Has.calls _ _ l0 t213 t214 true _ ?side1 ?side2 A7.out).mono ?_);(case side1 => repeat (first | exact HR0.out | (with_reducible refine Kd.C_alloc ?_ _) | (with_reducible refine Kd.C_drewN ?_ _) | (with_reducible refine Kd.C_drew ?_)));(case side2 => exact HC0.out);rintro e w' ⟨rfl,⟨nd,rfl⟩⟩;refine ⟨_,rfl,?_⟩))
     go_ret
     exact Up.e2
  ·replace c8:=Bool.eq_false_iff.mpr c8
   subst c8
   have H1 : (some false) = some r:=by rw [if_neg (show ¬ (false = true) by decide)] at H;exact H
   clear H
   have H:=H1
   clear H1
   obtain rfl:=Option.some.inj H
   go_enter Try.func125,Try.ntmps125
   go_wp2_with (first | ((with_reducible refine gate_callee (f:=50) rfl ?_);refine Up.gl (some 14) Try.func50 #[.string a3] ?_;(with_reducible refine (spec_l1Kind.calls a3 t213 t214 true _ A5.out).mono ?_);rintro e w' ⟨rfl,⟨nd,rfl⟩⟩;refine ⟨_,rfl,?_⟩) | ((with_reducible refine gate_callee (f:=87) rfl ?_);refine Up.gl (some 25) Try.func87 #[.slice A0 l0.length c0,.int .i64 t213,.int .i64 t214] ?_;(with_reducible refine (spec_l1Has.calls _ _ l0 t213 t214 false _ ?side1 ?side2 A7.out).mono ?_);(case side1 => repeat (first | exact HR0.out | (with_reducible refine Kd.C_alloc ?_ _) | (with_reducible refine Kd.C_drewN ?_ _) | (with_reducible refine Kd.C_drew ?_)));(case side2 => exact HC0.out);rintro e w' ⟨rfl,⟨nd,rfl⟩⟩;refine ⟨_,rfl,?_⟩))
   go_ret
   exact Up.e2
 ·replace c6:=Bool.eq_false_iff.mpr c6
  subst c6
  have H1 : ((spec_l1Base.f a3).bind fun t217 => (some t217)) = some r:=by rw [if_neg (show ¬ (false = true) by decide)] at H;exact H
  clear H
  have H:=H1
  clear H1
  replace H:=Option.bind_eq_some_iff.mp H
  obtain ⟨t217,A110,H⟩:=H
  replace H : (some t217) = some r:=H
  have A11:=Aside0.mk A110
  clear A110
  obtain rfl:=Option.some.inj H
  go_enter Try.func125,Try.ntmps125
  go_wp2_with (first | ((with_reducible refine gate_callee (f:=50) rfl ?_);refine Up.gl (some 14) Try.func50 #[.string a3] ?_;(with_reducible refine (spec_l1Kind.calls a3 t213 t214 false _ A5.out).mono ?_);rintro e w' ⟨rfl,⟨nd,rfl⟩⟩;refine ⟨_,rfl,?_⟩) | ((with_reducible refine gate_callee (f:=93) rfl ?_);refine Up.gl (some 21) Try.func93 #[.string a3] ?_;(with_reducible refine (spec_l1Base.calls a3 t217 _ A11.out).mono ?_);rintro e w' ⟨rfl,⟨nd,rfl⟩⟩;refine ⟨_,rfl,?_⟩))
  go_ret
  exact Up.e2

end Go.Proofs.Ytdgmlakgnbmbbaa.OFnExactVaultsOk
