-- Laid by a program of this session (wip/myprint.py): the kit's print of the functions, contracts of our own among them.
import Derived.Test.YtdgmlakgnbmbbaaDoorOFnExactValueTextx0
namespace Go.Proofs.YtdgmlakgnbmbbaaDoor.OFnExactValueText
open Go.RowKit Go.Proofs.YtdgmlakgnbmbbaaDoorW.PrintWords Go.Proofs.YtdgmlakgnbmbbaaDoorW.PrintLast Go.Proofs.YtdgmlakgnbmbbaaDoorW.PrintMore
attribute [local go_sem] max2_int min2_int max_two min_two max_three min_three max_four min_four   -- for this text's walks alone
set_option linter.unusedVariables false
set_option linter.unusedSimpArgs false

/-! ### impl_kindAt: function 71 -/
def impl_kindAt.f (a0 : ByteArray) : Option (Int × Int × Bool):=if (a0.size : Int) = 3 then (if 0 < (a0.size : Int) then (if (bt a0 0) = 83 then (if 1 < (a0.size : Int) then (if (bt a0 1) < 48 then (some (0,0,false)) else (if (bt a0 1) > 57 then (some (0,0,false)) else (if 2 < (a0.size : Int) then (if (bt a0 2) < 48 then (some (0,0,false)) else (if (bt a0 2) > 57 then (some (0,0,false)) else (some (((bt a0 1) - 48) % 256,((bt a0 2) - 48) % 256,true)))) else (none)))) else (none)) else (some (0,0,false))) else (none)) else (some (0,0,false))
set_option maxHeartbeats 8000000 in
set_option maxRecDepth 100000 in
theorem impl_kindAt.calls (a0 : ByteArray) (r1 : Int) (r2 : Int) (r3 : Bool) (w : World) (h : impl_kindAt.f a0 = some (r1,r2,r3)) :
  Calls Tryd.prog 71 #[.string a0] w fun e w' => e = .returned (.tuple #[.int .i64 r1,.int .i64 r2,.bool r3]) ∧ Drawn0 w w':=by
 have H : (if (a0.size : Int) = 3 then (if 0 < (a0.size : Int) then (if (bt a0 0) = 83 then (if 1 < (a0.size : Int) then (if (bt a0 1) < 48 then (some (0,0,false)) else (if (bt a0 1) > 57 then (some (0,0,false)) else (if 2 < (a0.size : Int) then (if (bt a0 2) < 48 then (some (0,0,false)) else (if (bt a0 2) > 57 then (some (0,0,false)) else (some (((bt a0 1) - 48) % 256,((bt a0 2) - 48) % 256,true)))) else (none)))) else (none)) else (some (0,0,false))) else (none)) else (some (0,0,false))) = some (r1,r2,r3):=h
 clear h
 by_cases c2 : (a0.size : Int) = 3
 ·rw [if_pos c2] at H
  have c2b0 : ((a0.size : Int) == 3) = true:=beq_iff_eq.mpr c2
  have c2b1 : ((a0.size : Int) != 3) = false:=bne_eq_false_iff_eq.mpr c2
  clear c2
  by_cases c3 : 0 < (a0.size : Int)
  ·rw [if_pos c3] at H
   have c3b0 : decide (0 < (a0.size : Int)) = true:=decide_eq_true c3
   have c3b1 : decide (0 < a0.size) = true:=decide_eq_true (by omega)
   clear c3
   by_cases c5 : (bt a0 0) = 83
   ·rw [if_pos c5] at H
    have c5b0 : ((bt a0 0) == 83) = true:=beq_iff_eq.mpr c5
    have c5b1 : ((bt a0 0) != 83) = false:=bne_eq_false_iff_eq.mpr c5
    clear c5
    by_cases c6 : 1 < (a0.size : Int)
    ·rw [if_pos c6] at H
     have c6b0 : decide (1 < (a0.size : Int)) = true:=decide_eq_true c6
     have c6b1 : decide (1 < a0.size) = true:=decide_eq_true (by omega)
     clear c6
     by_cases c8 : (bt a0 1) < 48
     ·rw [if_pos c8] at H
      have c8b0 : decide ((bt a0 1) < 48) = true:=decide_eq_true c8
      clear c8
      simp only [Option.some.injEq,Prod.mk.injEq] at H
      obtain ⟨rfl,rfl,rfl⟩:=H
      have p4 : 0 ≤ (0 : Int):=(by omega)
      have q4 : 0 < a0.size:=(by have : (0 : Int) < (a0.size : Int):=Up.od;omega)
      have hx4 : ∀ h : 0 < a0.size,((a0[0]'h).toNat : Int) = bt a0 0:=bt_at a0 0
      clear p4
      have qi4 : (0 < (a0.size : Int)) = True:=eq_true (Up.od)
      replace q4:=eq_true q4
      have p7 : 0 ≤ (1 : Int):=(by omega)
      have q7 : 1 < a0.size:=(by have : (1 : Int) < (a0.size : Int):=Up.od;omega)
      have hx7 : ∀ h : 1 < a0.size,((a0[1]'h).toNat : Int) = bt a0 1:=bt_at a0 1
      clear p7
      have qi7 : (1 < (a0.size : Int)) = True:=eq_true (Up.od)
      replace q7:=eq_true q7
      go_enter Tryd.func71,Tryd.ntmps71
      go_wp2
      repeat (go_quiet (fail);try go_wp2)
      go_ret3
      exact Up.e2
     ·rw [if_neg c8] at H
      have c8b0 : decide ((bt a0 1) < 48) = false:=decide_eq_false c8
      clear c8
      by_cases c10 : (bt a0 1) > 57
      ·rw [if_pos c10] at H
       have c10b0 : decide (57 < (bt a0 1)) = true:=decide_eq_true c10
       clear c10
       simp only [Option.some.injEq,Prod.mk.injEq] at H
       obtain ⟨rfl,rfl,rfl⟩:=H
       have p4 : 0 ≤ (0 : Int):=(by omega)
       have q4 : 0 < a0.size:=(by have : (0 : Int) < (a0.size : Int):=Up.od;omega)
       have hx4 : ∀ h : 0 < a0.size,((a0[0]'h).toNat : Int) = bt a0 0:=bt_at a0 0
       clear p4
       have qi4 : (0 < (a0.size : Int)) = True:=eq_true (Up.od)
       replace q4:=eq_true q4
       have p7 : 0 ≤ (1 : Int):=(by omega)
       have q7 : 1 < a0.size:=(by have : (1 : Int) < (a0.size : Int):=Up.od;omega)
       have hx7 : ∀ h : 1 < a0.size,((a0[1]'h).toNat : Int) = bt a0 1:=bt_at a0 1
       clear p7
       have qi7 : (1 < (a0.size : Int)) = True:=eq_true (Up.od)
       replace q7:=eq_true q7
       have p9 : 0 ≤ (1 : Int):=(by omega)
       have q9 : 1 < a0.size:=(by have : (1 : Int) < (a0.size : Int):=Up.od;omega)
       have hx9 : ∀ h : 1 < a0.size,((a0[1]'h).toNat : Int) = bt a0 1:=bt_at a0 1
       clear p9
       have qi9 : (1 < (a0.size : Int)) = True:=eq_true (Up.od)
       replace q9:=eq_true q9
       go_enter Tryd.func71,Tryd.ntmps71
       go_wp2
       repeat (go_quiet (fail);try go_wp2)
       go_ret3
       exact Up.e2
      ·rw [if_neg c10] at H
       have c10b0 : decide (57 < (bt a0 1)) = false:=decide_eq_false c10
       clear c10
       by_cases c11 : 2 < (a0.size : Int)
       ·rw [if_pos c11] at H
        have c11b0 : decide (2 < (a0.size : Int)) = true:=decide_eq_true c11
        have c11b1 : decide (2 < a0.size) = true:=decide_eq_true (by omega)
        clear c11
        by_cases c13 : (bt a0 2) < 48
        ·rw [if_pos c13] at H
         have c13b0 : decide ((bt a0 2) < 48) = true:=decide_eq_true c13
         clear c13
         simp only [Option.some.injEq,Prod.mk.injEq] at H
         obtain ⟨rfl,rfl,rfl⟩:=H
         have p4 : 0 ≤ (0 : Int):=(by omega)
         have q4 : 0 < a0.size:=(by have : (0 : Int) < (a0.size : Int):=Up.od;omega)
         have hx4 : ∀ h : 0 < a0.size,((a0[0]'h).toNat : Int) = bt a0 0:=bt_at a0 0
         clear p4
         have qi4 : (0 < (a0.size : Int)) = True:=eq_true (Up.od)
         replace q4:=eq_true q4
         have p7 : 0 ≤ (1 : Int):=(by omega)
         have q7 : 1 < a0.size:=(by have : (1 : Int) < (a0.size : Int):=Up.od;omega)
         have hx7 : ∀ h : 1 < a0.size,((a0[1]'h).toNat : Int) = bt a0 1:=bt_at a0 1
         clear p7
         have qi7 : (1 < (a0.size : Int)) = True:=eq_true (Up.od)
         replace q7:=eq_true q7
         have p9 : 0 ≤ (1 : Int):=(by omega)
         have q9 : 1 < a0.size:=(by have : (1 : Int) < (a0.size : Int):=Up.od;omega)
         have hx9 : ∀ h : 1 < a0.size,((a0[1]'h).toNat : Int) = bt a0 1:=bt_at a0 1
         clear p9
         have qi9 : (1 < (a0.size : Int)) = True:=eq_true (Up.od)
         replace q9:=eq_true q9
         have p12 : 0 ≤ (2 : Int):=(by omega)
         have q12 : 2 < a0.size:=(by have : (2 : Int) < (a0.size : Int):=Up.od;omega)
         have hx12 : ∀ h : 2 < a0.size,((a0[2]'h).toNat : Int) = bt a0 2:=bt_at a0 2
         clear p12
         have qi12 : (2 < (a0.size : Int)) = True:=eq_true (Up.od)
         replace q12:=eq_true q12
         go_enter Tryd.func71,Tryd.ntmps71
         go_wp2
         repeat (go_quiet (fail);try go_wp2)
         go_ret3
         exact Up.e2
        ·rw [if_neg c13] at H
         have c13b0 : decide ((bt a0 2) < 48) = false:=decide_eq_false c13
         clear c13
         by_cases c15 : (bt a0 2) > 57
         ·rw [if_pos c15] at H
          have c15b0 : decide (57 < (bt a0 2)) = true:=decide_eq_true c15
          clear c15
          simp only [Option.some.injEq,Prod.mk.injEq] at H
          obtain ⟨rfl,rfl,rfl⟩:=H
          have p4 : 0 ≤ (0 : Int):=(by omega)
          have q4 : 0 < a0.size:=(by have : (0 : Int) < (a0.size : Int):=Up.od;omega)
          have hx4 : ∀ h : 0 < a0.size,((a0[0]'h).toNat : Int) = bt a0 0:=bt_at a0 0
          clear p4
          have qi4 : (0 < (a0.size : Int)) = True:=eq_true (Up.od)
          replace q4:=eq_true q4
          have p7 : 0 ≤ (1 : Int):=(by omega)
          have q7 : 1 < a0.size:=(by have : (1 : Int) < (a0.size : Int):=Up.od;omega)
          have hx7 : ∀ h : 1 < a0.size,((a0[1]'h).toNat : Int) = bt a0 1:=bt_at a0 1
          clear p7
          have qi7 : (1 < (a0.size : Int)) = True:=eq_true (Up.od)
          replace q7:=eq_true q7
          have p9 : 0 ≤ (1 : Int):=(by omega)
          have q9 : 1 < a0.size:=(by have : (1 : Int) < (a0.size : Int):=Up.od;omega)
          have hx9 : ∀ h : 1 < a0.size,((a0[1]'h).toNat : Int) = bt a0 1:=bt_at a0 1
          clear p9
          have qi9 : (1 < (a0.size : Int)) = True:=eq_true (Up.od)
          replace q9:=eq_true q9
          have p12 : 0 ≤ (2 : Int):=(by omega)
          have q12 : 2 < a0.size:=(by have : (2 : Int) < (a0.size : Int):=Up.od;omega)
          have hx12 : ∀ h : 2 < a0.size,((a0[2]'h).toNat : Int) = bt a0 2:=bt_at a0 2
          clear p12
          have qi12 : (2 < (a0.size : Int)) = True:=eq_true (Up.od)
          replace q12:=eq_true q12
          have p14 : 0 ≤ (2 : Int):=(by omega)
          have q14 : 2 < a0.size:=(by have : (2 : Int) < (a0.size : Int):=Up.od;omega)
          have hx14 : ∀ h : 2 < a0.size,((a0[2]'h).toNat : Int) = bt a0 2:=bt_at a0 2
          clear p14
          have qi14 : (2 < (a0.size : Int)) = True:=eq_true (Up.od)
          replace q14:=eq_true q14
          go_enter Tryd.func71,Tryd.ntmps71
          go_wp2
          repeat (go_quiet (fail);try go_wp2)
          go_ret3
          exact Up.e2
         ·rw [if_neg c15] at H
          have c15b0 : decide (57 < (bt a0 2)) = false:=decide_eq_false c15
          clear c15
          simp only [Option.some.injEq,Prod.mk.injEq] at H
          obtain ⟨rfl,rfl,rfl⟩:=H
          have p4 : 0 ≤ (0 : Int):=(by omega)
          have q4 : 0 < a0.size:=(by have : (0 : Int) < (a0.size : Int):=Up.od;omega)
          have hx4 : ∀ h : 0 < a0.size,((a0[0]'h).toNat : Int) = bt a0 0:=bt_at a0 0
          clear p4
          have qi4 : (0 < (a0.size : Int)) = True:=eq_true (Up.od)
          replace q4:=eq_true q4
          have p7 : 0 ≤ (1 : Int):=(by omega)
          have q7 : 1 < a0.size:=(by have : (1 : Int) < (a0.size : Int):=Up.od;omega)
          have hx7 : ∀ h : 1 < a0.size,((a0[1]'h).toNat : Int) = bt a0 1:=bt_at a0 1
          clear p7
          have qi7 : (1 < (a0.size : Int)) = True:=eq_true (Up.od)
          replace q7:=eq_true q7
          have p9 : 0 ≤ (1 : Int):=(by omega)
          have q9 : 1 < a0.size:=(by have : (1 : Int) < (a0.size : Int):=Up.od;omega)
          have hx9 : ∀ h : 1 < a0.size,((a0[1]'h).toNat : Int) = bt a0 1:=bt_at a0 1
          clear p9
          have qi9 : (1 < (a0.size : Int)) = True:=eq_true (Up.od)
          replace q9:=eq_true q9
          have p12 : 0 ≤ (2 : Int):=(by omega)
          have q12 : 2 < a0.size:=(by have : (2 : Int) < (a0.size : Int):=Up.od;omega)
          have hx12 : ∀ h : 2 < a0.size,((a0[2]'h).toNat : Int) = bt a0 2:=bt_at a0 2
          clear p12
          have qi12 : (2 < (a0.size : Int)) = True:=eq_true (Up.od)
          replace q12:=eq_true q12
          have p14 : 0 ≤ (2 : Int):=(by omega)
          have q14 : 2 < a0.size:=(by have : (2 : Int) < (a0.size : Int):=Up.od;omega)
          have hx14 : ∀ h : 2 < a0.size,((a0[2]'h).toNat : Int) = bt a0 2:=bt_at a0 2
          clear p14
          have qi14 : (2 < (a0.size : Int)) = True:=eq_true (Up.od)
          replace q14:=eq_true q14
          have p16 : 0 ≤ (1 : Int):=(by omega)
          have q16 : 1 < a0.size:=(by have : (1 : Int) < (a0.size : Int):=Up.od;omega)
          have hx16 : ∀ h : 1 < a0.size,((a0[1]'h).toNat : Int) = bt a0 1:=bt_at a0 1
          clear p16
          have qi16 : (1 < (a0.size : Int)) = True:=eq_true (Up.od)
          replace q16:=eq_true q16
          have p17 : 0 ≤ (2 : Int):=(by omega)
          have q17 : 2 < a0.size:=(by have : (2 : Int) < (a0.size : Int):=Up.od;omega)
          have hx17 : ∀ h : 2 < a0.size,((a0[2]'h).toNat : Int) = bt a0 2:=bt_at a0 2
          clear p17
          have qi17 : (2 < (a0.size : Int)) = True:=eq_true (Up.od)
          replace q17:=eq_true q17
          go_enter Tryd.func71,Tryd.ntmps71
          go_wp2
          repeat (go_quiet (fail);try go_wp2)
          go_ret3
          exact Up.e2
       ·rw [if_neg c11] at H
        exact absurd H (by simp)
    ·rw [if_neg c6] at H
     exact absurd H (by simp)
   ·rw [if_neg c5] at H
    have c5b0 : ((bt a0 0) == 83) = false:=beq_eq_false_iff_ne.mpr c5
    have c5b1 : ((bt a0 0) != 83) = true:=bne_iff_ne.mpr c5
    simp only [Option.some.injEq,Prod.mk.injEq] at H
    obtain ⟨rfl,rfl,rfl⟩:=H
    have p4 : 0 ≤ (0 : Int):=(by omega)
    have q4 : 0 < a0.size:=(by have : (0 : Int) < (a0.size : Int):=Up.od;omega)
    have hx4 : ∀ h : 0 < a0.size,((a0[0]'h).toNat : Int) = bt a0 0:=bt_at a0 0
    clear p4
    have qi4 : (0 < (a0.size : Int)) = True:=eq_true (Up.od)
    replace q4:=eq_true q4
    go_enter Tryd.func71,Tryd.ntmps71
    go_wp2
    repeat (go_quiet (fail);try go_wp2)
    go_ret3
    exact Up.e2
  ·rw [if_neg c3] at H
   exact absurd H (by simp)
 ·rw [if_neg c2] at H
  have c2b0 : ((a0.size : Int) == 3) = false:=beq_eq_false_iff_ne.mpr c2
  have c2b1 : ((a0.size : Int) != 3) = true:=bne_iff_ne.mpr c2
  simp only [Option.some.injEq,Prod.mk.injEq] at H
  obtain ⟨rfl,rfl,rfl⟩:=H
  go_enter Tryd.func71,Tryd.ntmps71
  go_wp2
  repeat (go_quiet (fail);try go_wp2)
  go_ret3
  exact Up.e2

/-! ### impl_kindIn: function 64 -/
def impl_kindIn.f (l0 : List (List (S81))) (a1 : ByteArray) : Option (Bool):=(impl_kindAt.f a1).bind fun bt101 => (if bt101.2.2 = true then (if bt101.1 < (l0.length : Int) then (if 0 ≤ bt101.1 then (some (decide (bt101.2.1 < ((rd_L4 l0 bt101.1).length : Int)))) else (none)) else (some false)) else (some false))
set_option maxHeartbeats 8000000 in
set_option maxRecDepth 100000 in
theorem impl_kindIn.calls (A0 : Option Addr) (c0 : Nat) (l0 : List (List (S81))) (a1 : ByteArray) (r : Bool) (w : World) (hr0 : Kd.C (Kd.slice 81 k81) w A0 l0.length l0) (hc0 : l0.length ≤ c0) (h : impl_kindIn.f l0 a1 = some r) :
  Calls Tryd.prog 64 #[.slice A0 l0.length c0,.string a1] w fun e w' => e = .returned (.bool r) ∧ Drawn0 w w':=by
 have HR0:=Aside0.mk hr0
 have HC0:=Aside0.mk hc0
 clear hr0 hc0
 have H : ((impl_kindAt.f a1).bind fun bt101 => (if bt101.2.2 = true then (if bt101.1 < (l0.length : Int) then (if 0 ≤ bt101.1 then (some (decide (bt101.2.1 < ((rd_L4 l0 bt101.1).length : Int)))) else (none)) else (some false)) else (some false))) = some r:=h
 clear h
 replace H:=Option.bind_eq_some_iff.mp H
 obtain ⟨⟨t101,t102,t103⟩,A30,H⟩:=H
 replace H : (if t103 = true then (if t101 < (l0.length : Int) then (if 0 ≤ t101 then (some (decide (t102 < ((rd_L4 l0 t101).length : Int)))) else (none)) else (some false)) else (some false)) = some r:=H
 have A3:=Aside0.mk A30
 clear A30
 by_cases c4 : t103 = true
 ·subst c4
  have H1 : (if t101 < (l0.length : Int) then (if 0 ≤ t101 then (some (decide (t102 < ((rd_L4 l0 t101).length : Int)))) else (none)) else (some false)) = some r:=by rw [if_pos rfl] at H;exact H
  clear H
  have H:=H1
  clear H1
  by_cases c5 : t101 < (l0.length : Int)
  ·rw [if_pos c5] at H
   have c5b0 : decide (t101 < (l0.length : Int)) = true:=decide_eq_true c5
   clear c5
   by_cases c6 : 0 ≤ t101
   ·rw [if_pos c6] at H
    have c6b0 : decide (0 ≤ t101) = true:=decide_eq_true c6
    clear c6
    obtain rfl:=Option.some.inj H
    go_enter Tryd.func64,Tryd.ntmps64
    go_wp2_with (first | ((with_reducible refine gate_callee (f:=71) rfl ?_);refine Up.gl (some 10) Tryd.func71 #[.string a1] ?_;(with_reducible refine (impl_kindAt.calls a1 t101 t102 true _ A3.out).mono ?_);rintro e w' ⟨rfl,⟨nd,rfl⟩⟩;refine ⟨_,rfl,?_⟩;have p104 : 0 ≤ (t101 : Int):=Up.od;have q104 : t101 < (l0.length : Int):=Up.od;obtain ⟨ad104,A104_0,c104_0,e104,hx104_0,hl104_0,hi104_0⟩:=at_L4 HR0.out t101 p104 q104;cases e104;have HR104_0:=Aside0.mk hi104_0;have HC104_0:=Aside0.mk hl104_0;clear hi104_0 hl104_0;replace p104:=eq_true p104;replace q104:=eq_true q104))
    go_ret
    exact Up.e2
   ·rw [if_neg c6] at H
    exact absurd H (by simp)
  ·rw [if_neg c5] at H
   have c5b0 : decide (t101 < (l0.length : Int)) = false:=decide_eq_false c5
   clear c5
   obtain rfl:=Option.some.inj H
   go_enter Tryd.func64,Tryd.ntmps64
   go_wp2_with (first | ((with_reducible refine gate_callee (f:=71) rfl ?_);refine Up.gl (some 10) Tryd.func71 #[.string a1] ?_;(with_reducible refine (impl_kindAt.calls a1 t101 t102 true _ A3.out).mono ?_);rintro e w' ⟨rfl,⟨nd,rfl⟩⟩;refine ⟨_,rfl,?_⟩))
   go_ret
   exact Up.e2
 ·replace c4:=Bool.eq_false_iff.mpr c4
  subst c4
  have H1 : (some false) = some r:=by rw [if_neg (show ¬ (false = true) by decide)] at H;exact H
  clear H
  have H:=H1
  clear H1
  obtain rfl:=Option.some.inj H
  go_enter Tryd.func64,Tryd.ntmps64
  go_wp2_with (first | ((with_reducible refine gate_callee (f:=71) rfl ?_);refine Up.gl (some 10) Tryd.func71 #[.string a1] ?_;(with_reducible refine (impl_kindAt.calls a1 t101 t102 false _ A3.out).mono ?_);rintro e w' ⟨rfl,⟨nd,rfl⟩⟩;refine ⟨_,rfl,?_⟩))
  go_ret
  exact Up.e2

/-! ### impl_plainOk: function 55 -/
def impl_plainOk.f (l0 : List (List (S81))) (a1 : ByteArray) : Option (Bool):=if a1.toList = ([110] : List UInt8) then (some true) else (if a1.toList = ([98] : List UInt8) then (some true) else (if a1.toList = ([111] : List UInt8) then (some true) else ((impl_kindIn.f l0 a1).bind fun t105 => (some t105))))
set_option maxHeartbeats 8000000 in
set_option maxRecDepth 100000 in
theorem impl_plainOk.calls (A0 : Option Addr) (c0 : Nat) (l0 : List (List (S81))) (a1 : ByteArray) (r : Bool) (w : World) (hr0 : Kd.C (Kd.slice 81 k81) w A0 l0.length l0) (hc0 : l0.length ≤ c0) (h : impl_plainOk.f l0 a1 = some r) :
  Calls Tryd.prog 55 #[.slice A0 l0.length c0,.string a1] w fun e w' => e = .returned (.bool r) ∧ Drawn0 w w':=by
 have HR0:=Aside0.mk hr0
 have HC0:=Aside0.mk hc0
 clear hr0 hc0
 have H : (if a1.toList = ([110] : List UInt8) then (some true) else (if a1.toList = ([98] : List UInt8) then (some true) else (if a1.toList = ([111] : List UInt8) then (some true) else ((impl_kindIn.f l0 a1).bind fun t105 => (some t105))))) = some r:=h
 clear h
 by_cases c3 : a1.toList = ([110] : List UInt8)
 ·rw [if_pos c3] at H
  have c3b0 : (a1.toList == ([110] : List UInt8)) = true:=beq_iff_eq.mpr c3
  have c3b1 : (a1.toList != ([110] : List UInt8)) = false:=bne_eq_false_iff_eq.mpr c3
  clear c3
  obtain rfl:=Option.some.inj H
  go_enter Tryd.func55,Tryd.ntmps55
  go_wp2
  go_ret
  exact Up.e2
 ·rw [if_neg c3] at H
  have c3b0 : (a1.toList == ([110] : List UInt8)) = false:=beq_eq_false_iff_ne.mpr c3
  have c3b1 : (a1.toList != ([110] : List UInt8)) = true:=bne_iff_ne.mpr c3
  by_cases c4 : a1.toList = ([98] : List UInt8)
  ·rw [if_pos c4] at H
   have c4b0 : (a1.toList == ([98] : List UInt8)) = true:=beq_iff_eq.mpr c4
   have c4b1 : (a1.toList != ([98] : List UInt8)) = false:=bne_eq_false_iff_eq.mpr c4
   clear c4
   obtain rfl:=Option.some.inj H
   go_enter Tryd.func55,Tryd.ntmps55
   go_wp2
   go_ret
   exact Up.e2
  ·rw [if_neg c4] at H
   have c4b0 : (a1.toList == ([98] : List UInt8)) = false:=beq_eq_false_iff_ne.mpr c4
   have c4b1 : (a1.toList != ([98] : List UInt8)) = true:=bne_iff_ne.mpr c4
   by_cases c5 : a1.toList = ([111] : List UInt8)
   ·rw [if_pos c5] at H
    have c5b0 : (a1.toList == ([111] : List UInt8)) = true:=beq_iff_eq.mpr c5
    have c5b1 : (a1.toList != ([111] : List UInt8)) = false:=bne_eq_false_iff_eq.mpr c5
    clear c5
    obtain rfl:=Option.some.inj H
    go_enter Tryd.func55,Tryd.ntmps55
    go_wp2
    go_ret
    exact Up.e2
   ·rw [if_neg c5] at H
    have c5b0 : (a1.toList == ([111] : List UInt8)) = false:=beq_eq_false_iff_ne.mpr c5
    have c5b1 : (a1.toList != ([111] : List UInt8)) = true:=bne_iff_ne.mpr c5
    replace H:=Option.bind_eq_some_iff.mp H
    obtain ⟨t105,A60,H⟩:=H
    replace H : (some t105) = some r:=H
    have A6:=Aside0.mk A60
    clear A60
    obtain rfl:=Option.some.inj H
    go_enter Tryd.func55,Tryd.ntmps55
    go_wp2_with (first | (go_at_call 64;(with_reducible refine (impl_kindIn.calls _ _ l0 a1 t105 _ ?side1 ?side2 A6.out).mono ?_);(case side1 => repeat (first | exact HR0.out | (with_reducible refine Kd.C_alloc ?_ _) | (with_reducible refine Kd.C_drewN ?_ _) | (with_reducible refine Kd.C_drew ?_)));(case side2 => exact HC0.out);rintro e w' ⟨rfl,⟨nd,rfl⟩⟩))
    go_ret
    exact Up.e2

/-! ### impl_recordOf: function 56 -/
def impl_recordOf.f (l0 : List (List (S81))) (a1 : ByteArray) : Option (Int × List ByteArray):=(impl_kindAt.f a1).bind fun bt107 => (if 0 ≤ bt107.1 then (if bt107.1 < (l0.length : Int) then (if 0 ≤ bt107.2.1 then (if bt107.2.1 < ((rd_L4 l0 bt107.1).length : Int) then (some ((rd_T81 (rd_L4 l0 bt107.1) bt107.2.1).f0,(rd_T81 (rd_L4 l0 bt107.1) bt107.2.1).f1)) else (none)) else (none)) else (none)) else (none))
set_option maxHeartbeats 8000000 in
set_option maxRecDepth 100000 in
theorem impl_recordOf.calls (P0_ : Nat → Prop) (A0 : Option Addr) (c0 : Nat) (l0 : List (List (S81))) (a1 : ByteArray) (r1 : Int) (r2 : List ByteArray) (w : World) (hs0 : Kd.V (Kd.slice 81 k81) 66 w w.heap.size (fun k_ => P0_ k_) (.slice A0 l0.length c0) l0) (h : impl_recordOf.f l0 a1 = some (r1,r2)) :
  Calls Tryd.prog 56 #[.slice A0 l0.length c0,.string a1] w fun e w' => ∃ v1_ : Value,e = .returned (.agg #[.int .i64 r1,v1_]) ∧ Kd.V Kd.string 9 w' w.heap.size (fun k_ => (P0_ k_ ∨ w.heap.size ≤ k_)) v1_ r2 ∧ Below w.heap.size w w':=by
 have hu81:=Tryd.underlying81
 have HO0:=Aside0.mk (show Kd.V (Kd.slice 81 k81) 66 w w.heap.size (fun k_ => (P0_ k_ ∨ w.heap.size ≤ k_)) (.slice A0 l0.length c0) l0 from Kd.V_mono hs0 (fun k_ hk => .inl hk))
 have HB:=Aside0.mk (Below.refl w.heap.size w)
 have H : ((impl_kindAt.f a1).bind fun bt107 => (if 0 ≤ bt107.1 then (if bt107.1 < (l0.length : Int) then (if 0 ≤ bt107.2.1 then (if bt107.2.1 < ((rd_L4 l0 bt107.1).length : Int) then (some ((rd_T81 (rd_L4 l0 bt107.1) bt107.2.1).f0,(rd_T81 (rd_L4 l0 bt107.1) bt107.2.1).f1)) else (none)) else (none)) else (none)) else (none))) = some (r1,r2):=h
 clear h
 replace H:=Option.bind_eq_some_iff.mp H
 obtain ⟨⟨t107,t108,t109⟩,A30,H⟩:=H
 replace H : (if 0 ≤ t107 then (if t107 < (l0.length : Int) then (if 0 ≤ t108 then (if t108 < ((rd_L4 l0 t107).length : Int) then (some ((rd_T81 (rd_L4 l0 t107) t108).f0,(rd_T81 (rd_L4 l0 t107) t108).f1)) else (none)) else (none)) else (none)) else (none)) = some (r1,r2):=H
 have A3:=Aside0.mk A30
 clear A30
 by_cases c4 : 0 ≤ t107
 ·rw [if_pos c4] at H
  have c4b0 : decide (0 ≤ t107) = true:=decide_eq_true c4
  clear c4
  by_cases c5 : t107 < (l0.length : Int)
  ·rw [if_pos c5] at H
   have c5b0 : decide (t107 < (l0.length : Int)) = true:=decide_eq_true c5
   clear c5
   by_cases c6 : 0 ≤ t108
   ·rw [if_pos c6] at H
    have c6b0 : decide (0 ≤ t108) = true:=decide_eq_true c6
    clear c6
    by_cases c7 : t108 < ((rd_L4 l0 t107).length : Int)
    ·rw [if_pos c7] at H
     have c7b0 : decide (t108 < ((rd_L4 l0 t107).length : Int)) = true:=decide_eq_true c7
     clear c7
     simp only [Option.some.injEq,Prod.mk.injEq] at H
     obtain ⟨rfl,rfl⟩:=H
     go_enter Tryd.func56,Tryd.ntmps56
     go_wp2_with (first | ((with_reducible refine gate_dst (N:=4) rfl ?_);refine Up.bx 4 81 #[.int .i64 0,.slice none 0 0] ?_;intro gb106 hg w8 hbox hb;have n0_:=Aside0.mk (Kd.V_below (Kd.V_elderB (Up.Vup HO0) gb106 (Nat.le_of_eq hg.symm)) hb);have n1_:=Up.BB HB hb;have n2_:=Aside0.mk (hbox);have n3_:=Up.gw hg HB;have n4_:=Up.gw hg HB;clear HO0 HB;have HO0:=n0_;have HB:=n1_;have BK106:=n2_;have GW106:=n3_;have GE106:=n4_;clear n0_ n1_ n2_ n3_ n4_ hb hbox hg) | ((with_reducible refine gate_callee (f:=71) rfl ?_);refine Up.gl (some 10) Tryd.func71 #[.string a1] ?_;(with_reducible refine (impl_kindAt.calls a1 t107 t108 t109 _ A3.out).mono ?_);rintro e w' ⟨rfl,⟨nd,rfl⟩⟩;refine ⟨_,rfl,?_⟩;(try (rw [drewN_self w8];generalize hq_ : World.drewN w8 _ = w8;have n0_ : Aside0 (Kd.V (Kd.slice 81 k81) 66 w8 w.heap.size (fun k_ => (P0_ k_ ∨ w.heap.size ≤ k_) ∧ k_ ≠ gb106) (.slice A0 l0.length c0) l0):=⟨by rw [← hq_];exact (Up.Vup HO0)⟩;have n1_ : Aside0 (w8.heap[gb106]? = some (.cells #[.int .i64 0,.slice none 0 0] 81 (0,0))):=⟨by rw [← hq_];exact (Up.Kup BK106)⟩;have n2_ : Aside0 (Below w.heap.size w w8):=⟨by rw [← hq_];exact (Up.Bx HB)⟩;clear HO0 BK106 HB hq_;have HO0:=n0_;have BK106:=n1_;have HB:=n2_;clear n0_ n1_ n2_));have p110 : 0 ≤ (t107 : Int):=Up.od;have q110 : t107 < (l0.length : Int):=Up.od;obtain ⟨ad110,A110_0,c110_0,e110,hx110_0,hl110_0,hi110_0⟩:=at_L4 (Kd.V_reads' HO0.out).2.2 t107 p110 q110;cases e110;obtain ⟨ce110,hce110,hMe110,hcc110⟩:=Kd.V_get HO0.out [] t107 p110 (by first | exact q110 | exact Up.od | (have e_:=(Kd.V_reads' HO0.out).1;omega));obtain ⟨ua110_0,uc110_0,rfl,ul110_0,ge110_0⟩:=Kd.FK_slice_open hMe110;have hv110_0:=hcc110 0 _ rfl;rw [Nat.add_zero,show ((Kd.slice 81 k81)).sz = 1 from rfl,Nat.mul_one] at hv110_0;replace hv110_0:=Option.some.inj (hv110_0.symm.trans hx110_0);injection hv110_0 with hva_ hvn_ hvc_;rw [hva_] at ge110_0;rw [hvc_] at ul110_0;have HL110_0:=Aside0.mk (show Kd.V k81 81 _ w.heap.size _ _ (rd_L4 l0 t107) from Kd.V_mk ul110_0 ge110_0);clear hva_ hvn_ hvc_ ge110_0 ul110_0 hcc110 hce110;have HR110_0:=Aside0.mk hi110_0;have HC110_0:=Aside0.mk hl110_0;clear hi110_0 hl110_0;replace p110:=eq_true p110;replace q110:=eq_true q110;have p111 : 0 ≤ (t108 : Int):=Up.od;have q111 : t108 < ((rd_L4 l0 t107).length : Int):=Up.od;obtain ⟨ad111,A111_1,c111_1,e111,hx111_0,hx111_1,hl111_1,hi111_1⟩:=at_T81 (by repeat (first | (with_reducible exact HR110_0.out) | (with_reducible refine Kd.C_alloc ?_ _) | (with_reducible refine Kd.C_drewN ?_ _) | (with_reducible refine Kd.C_drew ?_) | exact HR110_0.out)) t108 p111 q111;cases e111;obtain ⟨ce111,hce111,hMe111,hcc111⟩:=Kd.V_get HL110_0.out z81 t108 p111 (by first | exact q111 | exact Up.od | (have e_:=(Kd.V_reads' HL110_0.out).1;omega));obtain ⟨ua111_1,uc111_1,rfl,ul111_1,ge111_1⟩:=k81_openF hMe111;have hv111_1:=hcc111 1 _ rfl;rw [add_field _ _ 1 (by omega)] at hv111_1;replace hv111_1:=Option.some.inj (hv111_1.symm.trans hx111_1);injection hv111_1 with hva_ hvn_ hvc_;rw [hva_] at ge111_1;rw [hvc_] at ul111_1;have HL111_1:=Aside0.mk (show Kd.V Kd.string 9 _ w.heap.size _ _ ((rd_T81 (rd_L4 l0 t107) t108).f1) from Kd.V_mk ul111_1 ge111_1);clear hva_ hvn_ hvc_ ge111_1 ul111_1 hcc111 hce111;have HR111_1:=Aside0.mk hi111_1;have HC111_1:=Aside0.mk hl111_1;clear hi111_1 hl111_1;replace p111:=eq_true p111;replace q111:=eq_true q111;have hcz9_0:=Up.c0 BK106;have hcz9_1:=Up.c1 BK106;have hfz9_0:=blk_frozen BK106.out 0;have hfz9_1:=blk_frozen BK106.out 1))
     refine bodyPost_ret (results_cell_row rfl _ _ gb106 81 #[.int .i64 ((rd_T81 (rd_L4 l0 t107) t108).f0),.slice A111_1 ((rd_T81 (rd_L4 l0 t107) t108).f1).length c111_1] (0,0) _ rfl (Up.Kx BK106) Tryd.underlying81 rfl (by kernel_rfl)) rfl ?_
     exact ⟨_,by first | rfl | (simp [errW_none,errW_some] <;> rfl) | (simp [*,errW_none,errW_some] <;> rfl),by (with_reducible repeat (first | apply Kd.V_alloc | apply Kd.V_drewN | apply Kd.V_drew));exact Kd.V_mono (Kd.V_far (p:=⟨gb106,1,none⟩) (Kd.V_far (p:=⟨gb106,0,none⟩) (Kd.V_mono HL111_1.out (fun k_ hk => (⟨hk,hk.2⟩ : _ ∧ k_ ≠ gb106))) (fun _ hk => hk.2) (.int .i64 ((rd_T81 (rd_L4 l0 t107) t108).f0))) (fun _ hk => hk.2) (.slice A111_1 ((rd_T81 (rd_L4 l0 t107) t108).f1).length c111_1)) (fun _ hk => hk.1.1),Up.Bx HB⟩
    ·rw [if_neg c7] at H
     exact absurd H (by simp)
   ·rw [if_neg c6] at H
    exact absurd H (by simp)
  ·rw [if_neg c5] at H
   exact absurd H (by simp)
 ·rw [if_neg c4] at H
  exact absurd H (by simp)

/-! ### impl_signOf: function 90 -/
def impl_signOf.f (a0 : ByteArray) : Option (ByteArray × ByteArray):=if a0.toList = ([] : List UInt8) then (some ((⟨#[]⟩ : ByteArray),a0)) else (if 0 < (a0.size : Int) then (if (bt a0 0) = 38 then (if 0 ≤ 1 then (if 1 ≤ (a0.size : Int) then (some (a0.extract 0 1,a0.extract 1 a0.size)) else (none)) else (none)) else (if (bt a0 0) = 33 then (if 0 ≤ 1 then (if 1 ≤ (a0.size : Int) then (some (a0.extract 0 1,a0.extract 1 a0.size)) else (none)) else (none)) else (some ((⟨#[]⟩ : ByteArray),a0)))) else (none))
set_option maxHeartbeats 8000000 in
set_option maxRecDepth 100000 in
theorem impl_signOf.calls (a0 : ByteArray) (r1 : ByteArray) (r2 : ByteArray) (w : World) (h : impl_signOf.f a0 = some (r1,r2)) :
  Calls Tryd.prog 90 #[.string a0] w fun e w' => e = .returned (.tuple #[.string r1,.string r2]) ∧ Drawn0 w w':=by
 have H : (if a0.toList = ([] : List UInt8) then (some ((⟨#[]⟩ : ByteArray),a0)) else (if 0 < (a0.size : Int) then (if (bt a0 0) = 38 then (if 0 ≤ 1 then (if 1 ≤ (a0.size : Int) then (some (a0.extract 0 1,a0.extract 1 a0.size)) else (none)) else (none)) else (if (bt a0 0) = 33 then (if 0 ≤ 1 then (if 1 ≤ (a0.size : Int) then (some (a0.extract 0 1,a0.extract 1 a0.size)) else (none)) else (none)) else (some ((⟨#[]⟩ : ByteArray),a0)))) else (none))) = some (r1,r2):=h
 clear h
 by_cases c2 : a0.toList = ([] : List UInt8)
 ·rw [if_pos c2] at H
  have c2b0 : (a0.toList == ([] : List UInt8)) = true:=beq_iff_eq.mpr c2
  have c2b1 : (a0.toList != ([] : List UInt8)) = false:=bne_eq_false_iff_eq.mpr c2
  clear c2
  simp only [Option.some.injEq,Prod.mk.injEq] at H
  obtain ⟨rfl,rfl⟩:=H
  go_enter Tryd.func90,Tryd.ntmps90
  go_wp2
  repeat (go_quiet (fail);try go_wp2)
  go_ret2
  exact Up.e2
 ·rw [if_neg c2] at H
  have c2b0 : (a0.toList == ([] : List UInt8)) = false:=beq_eq_false_iff_ne.mpr c2
  have c2b1 : (a0.toList != ([] : List UInt8)) = true:=bne_iff_ne.mpr c2
  by_cases c3 : 0 < (a0.size : Int)
  ·rw [if_pos c3] at H
   have c3b0 : decide (0 < (a0.size : Int)) = true:=decide_eq_true c3
   have c3b1 : decide (0 < a0.size) = true:=decide_eq_true (by omega)
   clear c3
   by_cases c5 : (bt a0 0) = 38
   ·rw [if_pos c5] at H
    have c5b0 : ((bt a0 0) == 38) = true:=beq_iff_eq.mpr c5
    have c5b1 : ((bt a0 0) != 38) = false:=bne_eq_false_iff_eq.mpr c5
    clear c5
    by_cases c6 : 0 ≤ 1
    ·rw [if_pos c6] at H
     have c6b0:=eq_true c6
     have c6b1 : decide (0 ≤ 1) = true:=decide_eq_true c6
     clear c6
     by_cases c7 : 1 ≤ (a0.size : Int)
     ·rw [if_pos c7] at H
      have c7b0:=eq_true c7
      have c7b1 : decide (1 ≤ (a0.size : Int)) = true:=decide_eq_true c7
      clear c7
      have c8b0:=eq_true (Up.od : 1 ≤ (a0.size : Int))
      simp only [Option.some.injEq,Prod.mk.injEq] at H
      obtain ⟨rfl,rfl⟩:=H
      have p4 : 0 ≤ (0 : Int):=(by omega)
      have q4 : 0 < a0.size:=(by have : (0 : Int) < (a0.size : Int):=Up.od;omega)
      have hx4 : ∀ h : 0 < a0.size,((a0[0]'h).toNat : Int) = bt a0 0:=bt_at a0 0
      clear p4
      have qi4 : (0 < (a0.size : Int)) = True:=eq_true (Up.od)
      replace q4:=eq_true q4
      go_enter Tryd.func90,Tryd.ntmps90
      go_wp2
      repeat (go_quiet (fail);try go_wp2)
      go_ret2
      exact Up.e2
     ·rw [if_neg c7] at H
      exact absurd H (by simp)
    ·rw [if_neg c6] at H
     exact absurd H (by simp)
   ·rw [if_neg c5] at H
    have c5b0 : ((bt a0 0) == 38) = false:=beq_eq_false_iff_ne.mpr c5
    have c5b1 : ((bt a0 0) != 38) = true:=bne_iff_ne.mpr c5
    by_cases c10 : (bt a0 0) = 33
    ·rw [if_pos c10] at H
     have c10b0 : ((bt a0 0) == 33) = true:=beq_iff_eq.mpr c10
     have c10b1 : ((bt a0 0) != 33) = false:=bne_eq_false_iff_eq.mpr c10
     clear c10
     by_cases c11 : 0 ≤ 1
     ·rw [if_pos c11] at H
      have c11b0:=eq_true c11
      have c11b1 : decide (0 ≤ 1) = true:=decide_eq_true c11
      clear c11
      by_cases c12 : 1 ≤ (a0.size : Int)
      ·rw [if_pos c12] at H
       have c12b0:=eq_true c12
       have c12b1 : decide (1 ≤ (a0.size : Int)) = true:=decide_eq_true c12
       clear c12
       have c13b0:=eq_true (Up.od : 1 ≤ (a0.size : Int))
       simp only [Option.some.injEq,Prod.mk.injEq] at H
       obtain ⟨rfl,rfl⟩:=H
       have p4 : 0 ≤ (0 : Int):=(by omega)
       have q4 : 0 < a0.size:=(by have : (0 : Int) < (a0.size : Int):=Up.od;omega)
       have hx4 : ∀ h : 0 < a0.size,((a0[0]'h).toNat : Int) = bt a0 0:=bt_at a0 0
       clear p4
       have qi4 : (0 < (a0.size : Int)) = True:=eq_true (Up.od)
       replace q4:=eq_true q4
       have p9 : 0 ≤ (0 : Int):=(by omega)
       have q9 : 0 < a0.size:=(by have : (0 : Int) < (a0.size : Int):=Up.od;omega)
       have hx9 : ∀ h : 0 < a0.size,((a0[0]'h).toNat : Int) = bt a0 0:=bt_at a0 0
       clear p9
       have qi9 : (0 < (a0.size : Int)) = True:=eq_true (Up.od)
       replace q9:=eq_true q9
       go_enter Tryd.func90,Tryd.ntmps90
       go_wp2
       repeat (go_quiet (fail);try go_wp2)
       go_ret2
       exact Up.e2
      ·rw [if_neg c12] at H
       exact absurd H (by simp)
     ·rw [if_neg c11] at H
      exact absurd H (by simp)
    ·rw [if_neg c10] at H
     have c10b0 : ((bt a0 0) == 33) = false:=beq_eq_false_iff_ne.mpr c10
     have c10b1 : ((bt a0 0) != 33) = true:=bne_iff_ne.mpr c10
     simp only [Option.some.injEq,Prod.mk.injEq] at H
     obtain ⟨rfl,rfl⟩:=H
     have p4 : 0 ≤ (0 : Int):=(by omega)
     have q4 : 0 < a0.size:=(by have : (0 : Int) < (a0.size : Int):=Up.od;omega)
     have hx4 : ∀ h : 0 < a0.size,((a0[0]'h).toNat : Int) = bt a0 0:=bt_at a0 0
     clear p4
     have qi4 : (0 < (a0.size : Int)) = True:=eq_true (Up.od)
     replace q4:=eq_true q4
     have p9 : 0 ≤ (0 : Int):=(by omega)
     have q9 : 0 < a0.size:=(by have : (0 : Int) < (a0.size : Int):=Up.od;omega)
     have hx9 : ∀ h : 0 < a0.size,((a0[0]'h).toNat : Int) = bt a0 0:=bt_at a0 0
     clear p9
     have qi9 : (0 < (a0.size : Int)) = True:=eq_true (Up.od)
     replace q9:=eq_true q9
     go_enter Tryd.func90,Tryd.ntmps90
     go_wp2
     repeat (go_quiet (fail);try go_wp2)
     go_ret2
     exact Up.e2
  ·rw [if_neg c3] at H
   exact absurd H (by simp)

/-! ### impl_ableOf: function 82 -/
def impl_ableOf.f (l0 : List (List (S81))) (a1 : ByteArray) : Option (Int):=(impl_signOf.f a1).bind fun bt112 => (if bt112.1.toList = ([38] : List UInt8) then (some 3) else (if bt112.1.toList = ([33] : List UInt8) then (some 2) else ((impl_kindIn.f l0 bt112.2).bind fun t114 => (if t114 = true then ((impl_recordOf.f l0 bt112.2).bind fun bt115 => (some bt115.1)) else (some 7)))))
set_option maxHeartbeats 8000000 in
set_option maxRecDepth 100000 in
theorem impl_ableOf.calls (A0 : Option Addr) (c0 : Nat) (l0 : List (List (S81))) (a1 : ByteArray) (r : Int) (w : World) (hr0 : Kd.C (Kd.slice 81 k81) w A0 l0.length l0) (hc0 : l0.length ≤ c0) (h : impl_ableOf.f l0 a1 = some r) :
  Calls Tryd.prog 82 #[.slice A0 l0.length c0,.string a1] w fun e w' => e = .returned (.int .i64 r) ∧ Below w.heap.size w w':=by
 have HR0:=Aside0.mk hr0
 have HC0:=Aside0.mk hc0
 clear hr0 hc0
 have HB:=Aside0.mk (Below.refl w.heap.size w)
 have H : ((impl_signOf.f a1).bind fun bt112 => (if bt112.1.toList = ([38] : List UInt8) then (some 3) else (if bt112.1.toList = ([33] : List UInt8) then (some 2) else ((impl_kindIn.f l0 bt112.2).bind fun t114 => (if t114 = true then ((impl_recordOf.f l0 bt112.2).bind fun bt115 => (some bt115.1)) else (some 7)))))) = some r:=h
 clear h
 replace H:=Option.bind_eq_some_iff.mp H
 obtain ⟨⟨t112,t113⟩,A30,H⟩:=H
 replace H : (if t112.toList = ([38] : List UInt8) then (some 3) else (if t112.toList = ([33] : List UInt8) then (some 2) else ((impl_kindIn.f l0 t113).bind fun t114 => (if t114 = true then ((impl_recordOf.f l0 t113).bind fun bt115 => (some bt115.1)) else (some 7))))) = some r:=H
 have A3:=Aside0.mk A30
 clear A30
 by_cases c4 : t112.toList = ([38] : List UInt8)
 ·rw [if_pos c4] at H
  have c4b0 : (t112.toList == ([38] : List UInt8)) = true:=beq_iff_eq.mpr c4
  have c4b1 : (t112.toList != ([38] : List UInt8)) = false:=bne_eq_false_iff_eq.mpr c4
  clear c4
  obtain rfl:=Option.some.inj H
  go_enter Tryd.func82,Tryd.ntmps82
  go_wp2_with (first | ((with_reducible refine gate_callee (f:=90) rfl ?_);refine Up.gl (some 9) Tryd.func90 #[.string a1] ?_;(with_reducible refine (impl_signOf.calls a1 t112 t113 _ A3.out).mono ?_);rintro e w' ⟨rfl,⟨nd,rfl⟩⟩;refine ⟨_,rfl,?_⟩))
  go_ret
  exact Up.e1 (Up.Bup HB)
 ·rw [if_neg c4] at H
  have c4b0 : (t112.toList == ([38] : List UInt8)) = false:=beq_eq_false_iff_ne.mpr c4
  have c4b1 : (t112.toList != ([38] : List UInt8)) = true:=bne_iff_ne.mpr c4
  by_cases c5 : t112.toList = ([33] : List UInt8)
  ·rw [if_pos c5] at H
   have c5b0 : (t112.toList == ([33] : List UInt8)) = true:=beq_iff_eq.mpr c5
   have c5b1 : (t112.toList != ([33] : List UInt8)) = false:=bne_eq_false_iff_eq.mpr c5
   clear c5
   obtain rfl:=Option.some.inj H
   go_enter Tryd.func82,Tryd.ntmps82
   go_wp2_with (first | ((with_reducible refine gate_callee (f:=90) rfl ?_);refine Up.gl (some 9) Tryd.func90 #[.string a1] ?_;(with_reducible refine (impl_signOf.calls a1 t112 t113 _ A3.out).mono ?_);rintro e w' ⟨rfl,⟨nd,rfl⟩⟩;refine ⟨_,rfl,?_⟩))
   go_ret
   exact Up.e1 (Up.Bup HB)
  ·rw [if_neg c5] at H
   have c5b0 : (t112.toList == ([33] : List UInt8)) = false:=beq_eq_false_iff_ne.mpr c5
   have c5b1 : (t112.toList != ([33] : List UInt8)) = true:=bne_iff_ne.mpr c5
   replace H:=Option.bind_eq_some_iff.mp H
   obtain ⟨t114,A60,H⟩:=H
   replace H : (if t114 = true then ((impl_recordOf.f l0 t113).bind fun bt115 => (some bt115.1)) else (some 7)) = some r:=H
   have A6:=Aside0.mk A60
   clear A60
   by_cases c7 : t114 = true
   ·subst c7
    have H1 : ((impl_recordOf.f l0 t113).bind fun bt115 => (some bt115.1)) = some r:=by rw [if_pos rfl] at H;exact H
    clear H
    have H:=H1
    clear H1
    replace H:=Option.bind_eq_some_iff.mp H
    obtain ⟨⟨t115,t116⟩,A80,H⟩:=H
    replace H : (some t115) = some r:=H
    have A8:=Aside0.mk A80
    clear A80
    obtain rfl:=Option.some.inj H
    go_enter Tryd.func82,Tryd.ntmps82
    go_wp2_with (first | ((with_reducible refine gate_callee (f:=90) rfl ?_);refine Up.gl (some 9) Tryd.func90 #[.string a1] ?_;(with_reducible refine (impl_signOf.calls a1 t112 t113 _ A3.out).mono ?_);rintro e w' ⟨rfl,⟨nd,rfl⟩⟩;refine ⟨_,rfl,?_⟩) | ((with_reducible refine gate_callee (f:=64) rfl ?_);refine Up.gl (some 21) Tryd.func64 #[.slice A0 l0.length c0,.string t113] ?_;(with_reducible refine (impl_kindIn.calls _ _ l0 t113 true _ ?side1 ?side2 A6.out).mono ?_);(case side1 => repeat (first | exact HR0.out | (with_reducible refine Kd.C_alloc ?_ _) | (with_reducible refine Kd.C_drewN ?_ _) | (with_reducible refine Kd.C_drew ?_)));(case side2 => exact HC0.out);rintro e w' ⟨rfl,⟨nd,rfl⟩⟩;refine ⟨_,rfl,?_⟩) | ((with_reducible refine gate_callee (f:=56) rfl ?_);refine Up.gl (some 24) Tryd.func56 #[.slice A0 l0.length c0,.string t113] ?_;(with_reducible refine (impl_recordOf.calls (fun k_ => k_ < w.heap.size) _ _ l0 t113 t115 t116 _ ?side1 A8.out).mono ?_);(case side1 => exact Kd.V_mk HC0.out (Kd.F_below (Kd.C_F (Kd.heap_slice 81 k81_heap) HR0.out) (Up.Bup HB)));rintro e w9 ⟨v117,rfl,ho0,hb⟩;refine ⟨_,rfl,?_⟩;have n0_:=Aside0.mk (Kd.V_lower (Kd.V_mono (ok':=fun k_ => True) ho0 (fun k_ hk_ => trivial)) (below_size (Up.Bup HB)));have n1_:=Up.BB HB hb;clear HB;have HO118:=n0_;have HB:=n1_;clear n0_ n1_;(try clear hb);(try clear hb2);(try clear hk);(try clear hi);(try clear ho0);(obtain ⟨Av_,cv_,ev_⟩:=Kd.V_slice HO118.out);subst ev_;(have hfl_ : ∀ w',(Instr.field 81 (.agg #[.int .i64 t115,.slice Av_ t116.length cv_]) 0).run Tryd.prog w' = .ok (.int .i64 t115) w':=fun _ => by kernel_rfl)))
    go_ret
    exact Up.e1 (Up.Bup HB)
   ·replace c7:=Bool.eq_false_iff.mpr c7
    subst c7
    have H1 : (some 7) = some r:=by rw [if_neg (show ¬ (false = true) by decide)] at H;exact H
    clear H
    have H:=H1
    clear H1
    obtain rfl:=Option.some.inj H
    go_enter Tryd.func82,Tryd.ntmps82
    go_wp2_with (first | ((with_reducible refine gate_callee (f:=90) rfl ?_);refine Up.gl (some 9) Tryd.func90 #[.string a1] ?_;(with_reducible refine (impl_signOf.calls a1 t112 t113 _ A3.out).mono ?_);rintro e w' ⟨rfl,⟨nd,rfl⟩⟩;refine ⟨_,rfl,?_⟩) | ((with_reducible refine gate_callee (f:=64) rfl ?_);refine Up.gl (some 21) Tryd.func64 #[.slice A0 l0.length c0,.string t113] ?_;(with_reducible refine (impl_kindIn.calls _ _ l0 t113 false _ ?side1 ?side2 A6.out).mono ?_);(case side1 => repeat (first | exact HR0.out | (with_reducible refine Kd.C_alloc ?_ _) | (with_reducible refine Kd.C_drewN ?_ _) | (with_reducible refine Kd.C_drew ?_)));(case side2 => exact HC0.out);rintro e w' ⟨rfl,⟨nd,rfl⟩⟩;refine ⟨_,rfl,?_⟩))
    go_ret
    exact Up.e1 (Up.Bup HB)

end Go.Proofs.YtdgmlakgnbmbbaaDoor.OFnExactValueText
