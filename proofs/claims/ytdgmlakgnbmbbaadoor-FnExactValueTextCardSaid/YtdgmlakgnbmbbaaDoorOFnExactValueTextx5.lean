-- Laid by a program of this session (wip/myprint.py): the kit's print of the functions, contracts of our own among them.
import Derived.Test.YtdgmlakgnbmbbaaDoorOFnExactValueTextx0
import Derived.Test.YtdgmlakgnbmbbaaDoorOFnExactValueTextx4
namespace Go.Proofs.YtdgmlakgnbmbbaaDoor.OFnExactValueText
open Go.RowKit Go.Proofs.YtdgmlakgnbmbbaaDoorW.PrintWords Go.Proofs.YtdgmlakgnbmbbaaDoorW.PrintLast Go.Proofs.YtdgmlakgnbmbbaaDoorW.PrintMore
attribute [local go_sem] max2_int min2_int max_two min_two max_three min_three max_four min_four   -- for this text's walks alone
set_option linter.unusedVariables false
set_option linter.unusedSimpArgs false

/-! ### spec_l1Base: function 91 -/
def spec_l1Base.f (a0 : ByteArray) : Option (Bool):=if a0.toList = ([110] : List UInt8) then (some true) else (if a0.toList = ([98] : List UInt8) then (some true) else (some (a0.toList == ([111] : List UInt8))))
set_option maxHeartbeats 8000000 in
set_option maxRecDepth 100000 in
theorem spec_l1Base.calls (a0 : ByteArray) (r : Bool) (w : World) (h : spec_l1Base.f a0 = some r) :
  Calls Tryd.prog 91 #[.string a0] w fun e w' => e = .returned (.bool r) ∧ Drawn0 w w':=by
 have H : (if a0.toList = ([110] : List UInt8) then (some true) else (if a0.toList = ([98] : List UInt8) then (some true) else (some (a0.toList == ([111] : List UInt8))))) = some r:=h
 clear h
 by_cases c2 : a0.toList = ([110] : List UInt8)
 ·rw [if_pos c2] at H
  have c2b0 : (a0.toList == ([110] : List UInt8)) = true:=beq_iff_eq.mpr c2
  have c2b1 : (a0.toList != ([110] : List UInt8)) = false:=bne_eq_false_iff_eq.mpr c2
  clear c2
  obtain rfl:=Option.some.inj H
  go_enter Tryd.func91,Tryd.ntmps91
  go_wp2
  go_ret
  exact Up.e2
 ·rw [if_neg c2] at H
  have c2b0 : (a0.toList == ([110] : List UInt8)) = false:=beq_eq_false_iff_ne.mpr c2
  have c2b1 : (a0.toList != ([110] : List UInt8)) = true:=bne_iff_ne.mpr c2
  by_cases c3 : a0.toList = ([98] : List UInt8)
  ·rw [if_pos c3] at H
   have c3b0 : (a0.toList == ([98] : List UInt8)) = true:=beq_iff_eq.mpr c3
   have c3b1 : (a0.toList != ([98] : List UInt8)) = false:=bne_eq_false_iff_eq.mpr c3
   clear c3
   obtain rfl:=Option.some.inj H
   go_enter Tryd.func91,Tryd.ntmps91
   go_wp2
   go_ret
   exact Up.e2
  ·rw [if_neg c3] at H
   have c3b0 : (a0.toList == ([98] : List UInt8)) = false:=beq_eq_false_iff_ne.mpr c3
   have c3b1 : (a0.toList != ([98] : List UInt8)) = true:=bne_iff_ne.mpr c3
   obtain rfl:=Option.some.inj H
   go_enter Tryd.func91,Tryd.ntmps91
   go_wp2
   go_ret
   exact Up.e2

/-! ### spec_l1Field: function 83 -/
def spec_l1Field.f (l0 : List (List (S81))) (a1 : Int) (a2 : Int) (a3 : ByteArray) : Option (Bool):=(spec_l1Kind.f a3).bind fun bt168 => (if bt168.2.2 = true then ((spec_l1Has.f l0 bt168.1 bt168.2.1).bind fun t171 => (if t171 = true then (if bt168.1 < a1 then (some true) else (if bt168.1 = a1 then (some (decide (bt168.2.1 < a2))) else (some false))) else (some false))) else ((spec_l1Base.f a3).bind fun t172 => (some t172)))
set_option maxHeartbeats 8000000 in
set_option maxRecDepth 100000 in
theorem spec_l1Field.calls (A0 : Option Addr) (c0 : Nat) (l0 : List (List (S81))) (a1 : Int) (a2 : Int) (a3 : ByteArray) (r : Bool) (w : World) (hr0 : Kd.C (Kd.slice 81 k81) w A0 l0.length l0) (hc0 : l0.length ≤ c0) (h : spec_l1Field.f l0 a1 a2 a3 = some r) :
  Calls Tryd.prog 83 #[.slice A0 l0.length c0,.int .i64 a1,.int .i64 a2,.string a3] w fun e w' => e = .returned (.bool r) ∧ Drawn0 w w':=by
 have HR0:=Aside0.mk hr0
 have HC0:=Aside0.mk hc0
 clear hr0 hc0
 have H : ((spec_l1Kind.f a3).bind fun bt168 => (if bt168.2.2 = true then ((spec_l1Has.f l0 bt168.1 bt168.2.1).bind fun t171 => (if t171 = true then (if bt168.1 < a1 then (some true) else (if bt168.1 = a1 then (some (decide (bt168.2.1 < a2))) else (some false))) else (some false))) else ((spec_l1Base.f a3).bind fun t172 => (some t172)))) = some r:=h
 clear h
 replace H:=Option.bind_eq_some_iff.mp H
 obtain ⟨⟨t168,t169,t170⟩,A50,H⟩:=H
 replace H : (if t170 = true then ((spec_l1Has.f l0 t168 t169).bind fun t171 => (if t171 = true then (if t168 < a1 then (some true) else (if t168 = a1 then (some (decide (t169 < a2))) else (some false))) else (some false))) else ((spec_l1Base.f a3).bind fun t172 => (some t172))) = some r:=H
 have A5:=Aside0.mk A50
 clear A50
 by_cases c6 : t170 = true
 ·subst c6
  have H1 : ((spec_l1Has.f l0 t168 t169).bind fun t171 => (if t171 = true then (if t168 < a1 then (some true) else (if t168 = a1 then (some (decide (t169 < a2))) else (some false))) else (some false))) = some r:=by rw [if_pos rfl] at H;exact H
  clear H
  have H:=H1
  clear H1
  replace H:=Option.bind_eq_some_iff.mp H
  obtain ⟨t171,A70,H⟩:=H
  replace H : (if t171 = true then (if t168 < a1 then (some true) else (if t168 = a1 then (some (decide (t169 < a2))) else (some false))) else (some false)) = some r:=H
  have A7:=Aside0.mk A70
  clear A70
  by_cases c8 : t171 = true
  ·subst c8
   have H1 : (if t168 < a1 then (some true) else (if t168 = a1 then (some (decide (t169 < a2))) else (some false))) = some r:=by rw [if_pos rfl] at H;exact H
   clear H
   have H:=H1
   clear H1
   by_cases c9 : t168 < a1
   ·rw [if_pos c9] at H
    have c9b0 : decide (t168 < a1) = true:=decide_eq_true c9
    clear c9
    obtain rfl:=Option.some.inj H
    go_enter Tryd.func83,Tryd.ntmps83
    go_wp2_with (first | ((with_reducible refine gate_callee (f:=51) rfl ?_);refine Up.gl (some 14) Tryd.func51 #[.string a3] ?_;(with_reducible refine (spec_l1Kind.calls a3 t168 t169 true _ A5.out).mono ?_);rintro e w' ⟨rfl,⟨nd,rfl⟩⟩;refine ⟨_,rfl,?_⟩) | ((with_reducible refine gate_callee (f:=52) rfl ?_);refine Up.gl (some 25) Tryd.func52 #[.slice A0 l0.length c0,.int .i64 t168,.int .i64 t169] ?_;(with_reducible refine (spec_l1Has.calls _ _ l0 t168 t169 true _ ?side1 ?side2 A7.out).mono ?_);(case side1 => repeat (first | exact HR0.out | (with_reducible refine Kd.C_alloc ?_ _) | (with_reducible refine Kd.C_drewN ?_ _) | (with_reducible refine Kd.C_drew ?_)));(case side2 => exact HC0.out);rintro e w' ⟨rfl,⟨nd,rfl⟩⟩;refine ⟨_,rfl,?_⟩))
    go_ret
    exact Up.e2
   ·rw [if_neg c9] at H
    have c9b0 : decide (t168 < a1) = false:=decide_eq_false c9
    clear c9
    by_cases c10 : t168 = a1
    ·rw [if_pos c10] at H
     have c10b0 : (t168 == a1) = true:=beq_iff_eq.mpr c10
     have c10b1 : (t168 != a1) = false:=bne_eq_false_iff_eq.mpr c10
     clear c10
     obtain rfl:=Option.some.inj H
     go_enter Tryd.func83,Tryd.ntmps83
     go_wp2_with (first | ((with_reducible refine gate_callee (f:=51) rfl ?_);refine Up.gl (some 14) Tryd.func51 #[.string a3] ?_;(with_reducible refine (spec_l1Kind.calls a3 t168 t169 true _ A5.out).mono ?_);rintro e w' ⟨rfl,⟨nd,rfl⟩⟩;refine ⟨_,rfl,?_⟩) | ((with_reducible refine gate_callee (f:=52) rfl ?_);refine Up.gl (some 25) Tryd.func52 #[.slice A0 l0.length c0,.int .i64 t168,.int .i64 t169] ?_;(with_reducible refine (spec_l1Has.calls _ _ l0 t168 t169 true _ ?side1 ?side2 A7.out).mono ?_);(case side1 => repeat (first | exact HR0.out | (with_reducible refine Kd.C_alloc ?_ _) | (with_reducible refine Kd.C_drewN ?_ _) | (with_reducible refine Kd.C_drew ?_)));(case side2 => exact HC0.out);rintro e w' ⟨rfl,⟨nd,rfl⟩⟩;refine ⟨_,rfl,?_⟩))
     go_ret
     exact Up.e2
    ·rw [if_neg c10] at H
     have c10b0 : (t168 == a1) = false:=beq_eq_false_iff_ne.mpr c10
     have c10b1 : (t168 != a1) = true:=bne_iff_ne.mpr c10
     obtain rfl:=Option.some.inj H
     go_enter Tryd.func83,Tryd.ntmps83
     go_wp2_with (first | ((with_reducible refine gate_callee (f:=51) rfl ?_);refine Up.gl (some 14) Tryd.func51 #[.string a3] ?_;(with_reducible refine (spec_l1Kind.calls a3 t168 t169 true _ A5.out).mono ?_);rintro e w' ⟨rfl,⟨nd,rfl⟩⟩;refine ⟨_,rfl,?_⟩) | ((with_reducible refine gate_callee (f:=52) rfl ?_);refine Up.gl (some 25) Tryd.func52 #[.slice A0 l0.length c0,.int .i64 t168,.int .i64 t169] ?_;(with_reducible refine (spec_l1Has.calls _ _ l0 t168 t169 true _ ?side1 ?side2 A7.out).mono ?_);(case side1 => repeat (first | exact HR0.out | (with_reducible refine Kd.C_alloc ?_ _) | (with_reducible refine Kd.C_drewN ?_ _) | (with_reducible refine Kd.C_drew ?_)));(case side2 => exact HC0.out);rintro e w' ⟨rfl,⟨nd,rfl⟩⟩;refine ⟨_,rfl,?_⟩))
     go_ret
     exact Up.e2
  ·replace c8:=Bool.eq_false_iff.mpr c8
   subst c8
   have H1 : (some false) = some r:=by rw [if_neg (show ¬ (false = true) by decide)] at H;exact H
   clear H
   have H:=H1
   clear H1
   obtain rfl:=Option.some.inj H
   go_enter Tryd.func83,Tryd.ntmps83
   go_wp2_with (first | ((with_reducible refine gate_callee (f:=51) rfl ?_);refine Up.gl (some 14) Tryd.func51 #[.string a3] ?_;(with_reducible refine (spec_l1Kind.calls a3 t168 t169 true _ A5.out).mono ?_);rintro e w' ⟨rfl,⟨nd,rfl⟩⟩;refine ⟨_,rfl,?_⟩) | ((with_reducible refine gate_callee (f:=52) rfl ?_);refine Up.gl (some 25) Tryd.func52 #[.slice A0 l0.length c0,.int .i64 t168,.int .i64 t169] ?_;(with_reducible refine (spec_l1Has.calls _ _ l0 t168 t169 false _ ?side1 ?side2 A7.out).mono ?_);(case side1 => repeat (first | exact HR0.out | (with_reducible refine Kd.C_alloc ?_ _) | (with_reducible refine Kd.C_drewN ?_ _) | (with_reducible refine Kd.C_drew ?_)));(case side2 => exact HC0.out);rintro e w' ⟨rfl,⟨nd,rfl⟩⟩;refine ⟨_,rfl,?_⟩))
   go_ret
   exact Up.e2
 ·replace c6:=Bool.eq_false_iff.mpr c6
  subst c6
  have H1 : ((spec_l1Base.f a3).bind fun t172 => (some t172)) = some r:=by rw [if_neg (show ¬ (false = true) by decide)] at H;exact H
  clear H
  have H:=H1
  clear H1
  replace H:=Option.bind_eq_some_iff.mp H
  obtain ⟨t172,A110,H⟩:=H
  replace H : (some t172) = some r:=H
  have A11:=Aside0.mk A110
  clear A110
  obtain rfl:=Option.some.inj H
  go_enter Tryd.func83,Tryd.ntmps83
  go_wp2_with (first | ((with_reducible refine gate_callee (f:=51) rfl ?_);refine Up.gl (some 14) Tryd.func51 #[.string a3] ?_;(with_reducible refine (spec_l1Kind.calls a3 t168 t169 false _ A5.out).mono ?_);rintro e w' ⟨rfl,⟨nd,rfl⟩⟩;refine ⟨_,rfl,?_⟩) | ((with_reducible refine gate_callee (f:=91) rfl ?_);refine Up.gl (some 21) Tryd.func91 #[.string a3] ?_;(with_reducible refine (spec_l1Base.calls a3 t172 _ A11.out).mono ?_);rintro e w' ⟨rfl,⟨nd,rfl⟩⟩;refine ⟨_,rfl,?_⟩))
  go_ret
  exact Up.e2

/-! ### spec_l1Ref: function 92 -/
def spec_l1Ref.f (a0 : ByteArray) : Option (Bool):=if (a0.size : Int) > 0 then (if 0 < (a0.size : Int) then (if (bt a0 0) = 38 then (some true) else (some ((bt a0 0) == 33))) else (none)) else (some false)
set_option maxHeartbeats 8000000 in
set_option maxRecDepth 100000 in
theorem spec_l1Ref.calls (a0 : ByteArray) (r : Bool) (w : World) (h : spec_l1Ref.f a0 = some r) :
  Calls Tryd.prog 92 #[.string a0] w fun e w' => e = .returned (.bool r) ∧ Drawn0 w w':=by
 have H : (if (a0.size : Int) > 0 then (if 0 < (a0.size : Int) then (if (bt a0 0) = 38 then (some true) else (some ((bt a0 0) == 33))) else (none)) else (some false)) = some r:=h
 clear h
 by_cases c2 : (a0.size : Int) > 0
 ·rw [if_pos c2] at H
  have c2b0 : decide (0 < (a0.size : Int)) = true:=decide_eq_true c2
  have c2b1 : decide (0 < a0.size) = true:=decide_eq_true (by omega)
  clear c2
  by_cases c3 : 0 < (a0.size : Int)
  ·rw [if_pos c3] at H
   have c3b0 : decide (0 < (a0.size : Int)) = true:=decide_eq_true c3
   have c3b1 : decide (0 < a0.size) = true:=decide_eq_true (by omega)
   clear c3
   by_cases c5 : (bt a0 0) = 38
   ·rw [if_pos c5] at H
    have c5b0 : ((bt a0 0) == 38) = true:=beq_iff_eq.mpr c5
    have c5b1 : ((bt a0 0) != 38) = false:=bne_eq_false_iff_eq.mpr c5
    clear c5
    obtain rfl:=Option.some.inj H
    have p4 : 0 ≤ (0 : Int):=(by omega)
    have q4 : 0 < a0.size:=(by have : (0 : Int) < (a0.size : Int):=Up.od;omega)
    have hx4 : ∀ h : 0 < a0.size,((a0[0]'h).toNat : Int) = bt a0 0:=bt_at a0 0
    clear p4
    have qi4 : (0 < (a0.size : Int)) = True:=eq_true (Up.od)
    replace q4:=eq_true q4
    go_enter Tryd.func92,Tryd.ntmps92
    go_wp2
    go_ret
    exact Up.e2
   ·rw [if_neg c5] at H
    have c5b0 : ((bt a0 0) == 38) = false:=beq_eq_false_iff_ne.mpr c5
    have c5b1 : ((bt a0 0) != 38) = true:=bne_iff_ne.mpr c5
    obtain rfl:=Option.some.inj H
    have p4 : 0 ≤ (0 : Int):=(by omega)
    have q4 : 0 < a0.size:=(by have : (0 : Int) < (a0.size : Int):=Up.od;omega)
    have hx4 : ∀ h : 0 < a0.size,((a0[0]'h).toNat : Int) = bt a0 0:=bt_at a0 0
    clear p4
    have qi4 : (0 < (a0.size : Int)) = True:=eq_true (Up.od)
    replace q4:=eq_true q4
    have p6 : 0 ≤ (0 : Int):=(by omega)
    have q6 : 0 < a0.size:=(by have : (0 : Int) < (a0.size : Int):=Up.od;omega)
    have hx6 : ∀ h : 0 < a0.size,((a0[0]'h).toNat : Int) = bt a0 0:=bt_at a0 0
    clear p6
    have qi6 : (0 < (a0.size : Int)) = True:=eq_true (Up.od)
    replace q6:=eq_true q6
    go_enter Tryd.func92,Tryd.ntmps92
    go_wp2
    go_ret
    exact Up.e2
  ·rw [if_neg c3] at H
   exact absurd H (by simp)
 ·rw [if_neg c2] at H
  have c2b0 : decide (0 < (a0.size : Int)) = false:=decide_eq_false c2
  have c2b1 : decide (0 < a0.size) = false:=decide_eq_false (by omega)
  clear c2
  obtain rfl:=Option.some.inj H
  go_enter Tryd.func92,Tryd.ntmps92
  go_wp2
  go_ret
  exact Up.e2

/-! ### spec_l1Able: function 84 -/
def spec_l1Able.j0 : Nat → List (List (S81)) → ByteArray → Bool → Option (Int)
 | 0,_,_,_ => none
 | k + 1,x0,x1,x14 => if x14 = true then (some 3) else ((spec_l1Ref.f x1).bind fun t174 => (if t174 = true then (some 2) else ((spec_l1Kind.f x1).bind fun bt175 => (if bt175.2.2 = true then (if 0 ≤ bt175.1 then (if bt175.1 < (x0.length : Int) then (if 0 ≤ bt175.2.1 then (if bt175.2.1 < ((rd_L4 x0 bt175.1).length : Int) then (some ((rd_T81 (rd_L4 x0 bt175.1) bt175.2.1).f0)) else (none)) else (none)) else (none)) else (none)) else (some 7)))))
def spec_l1Able.f (k : Nat) (l0 : List (List (S81))) (a1 : ByteArray) : Option (Int):=(spec_l1Ref.f a1).bind fun t173 => (if t173 = true then (if 0 < (a1.size : Int) then (spec_l1Able.j0 k l0 a1 ((bt a1 0) == 38)) else (none)) else (spec_l1Able.j0 k l0 a1 false))
theorem spec_l1Able.mono_l : ∀ k,(∀ y0 y1 y2,LeO (spec_l1Able.j0 k y0 y1 y2) (spec_l1Able.j0 (k + 1) y0 y1 y2))
 | 0 => fun _ _ _ r h => by simp [spec_l1Able.j0] at h
 | k + 1 => by
  have ih0:=spec_l1Able.mono_l k
  ·intro y0 y1 y2
   unfold spec_l1Able.j0
   repeat' first
   | (with_reducible exact ih0 _ _ _)
   | (with_reducible exact LeO.refl _)
   | (with_reducible exact LeO.none _)
   | (with_reducible refine LeO.ite ?_ ?_)
   | (with_reducible refine LeO.bind ?_ (fun _ => ?_))
   | exact ih0 _ _ _
   | exact LeO.none _
   | refine LeO.ite ?_ ?_
   | refine LeO.bind ?_ (fun _ => ?_)
theorem spec_l1Able.mono : ∀ a0 a1 k,LeO (spec_l1Able.f k a0 a1) (spec_l1Able.f (k + 1) a0 a1):=by
 intro a0 a1 k
 have ih0:=spec_l1Able.mono_l k
 unfold spec_l1Able.f
 repeat' first
   | (with_reducible exact ih0 _ _ _)
   | (with_reducible exact LeO.refl _)
   | (with_reducible exact LeO.none _)
   | (with_reducible refine LeO.ite ?_ ?_)
   | (with_reducible refine LeO.bind ?_ (fun _ => ?_))
   | exact ih0 _ _ _
   | exact LeO.none _
   | refine LeO.ite ?_ ?_
   | refine LeO.bind ?_ (fun _ => ?_)
set_option maxHeartbeats 8000000 in
set_option maxRecDepth 100000 in
theorem spec_l1Able.calls (k : Nat) (A0 : Option Addr) (c0 : Nat) (l0 : List (List (S81))) (a1 : ByteArray) (r : Int) (w : World) (hr0 : Kd.C (Kd.slice 81 k81) w A0 l0.length l0) (hc0 : l0.length ≤ c0) (h : spec_l1Able.f k l0 a1 = some r) :
  Calls Tryd.prog 84 #[.slice A0 l0.length c0,.string a1] w fun e w' => e = .returned (.int .i64 r) ∧ Drawn0 w w':=by
 have HR0:=Aside0.mk hr0
 have HC0:=Aside0.mk hc0
 clear hr0 hc0
 have H : ((spec_l1Ref.f a1).bind fun t173 => (if t173 = true then (if 0 < (a1.size : Int) then (spec_l1Able.j0 k l0 a1 ((bt a1 0) == 38)) else (none)) else (spec_l1Able.j0 k l0 a1 false))) = some r:=h
 clear h
 have HC3:=Aside0.mk H
 clear H
 go_enter Tryd.func84,Tryd.ntmps84
 go_upto_region 1 with (fail)
 go_cut [14] (fun v14 wc => ∃ (kq : Nat) (x14_2 : Bool),v14 = .bool x14_2 ∧ Aside0 (spec_l1Able.j0 kq l0 a1 x14_2 = some r) ∧ Aside0 (kq ≤ k) ∧ Drawn0 w wc)
 case first =>
  have H:=HC3.out
  clear HC3
  replace H:=Option.bind_eq_some_iff.mp H
  obtain ⟨t173,A40,H⟩:=H
  replace H : (if t173 = true then (if 0 < (a1.size : Int) then (spec_l1Able.j0 k l0 a1 ((bt a1 0) == 38)) else (none)) else (spec_l1Able.j0 k l0 a1 false)) = some r:=H
  have A4:=Aside0.mk A40
  clear A40
  by_cases c5 : t173 = true
  ·subst c5
   have H1 : (if 0 < (a1.size : Int) then (spec_l1Able.j0 k l0 a1 ((bt a1 0) == 38)) else (none)) = some r:=by rw [if_pos rfl] at H;exact H
   clear H
   have H:=H1
   clear H1
   by_cases c6 : 0 < (a1.size : Int)
   ·rw [if_pos c6] at H
    have c6b0 : decide (0 < (a1.size : Int)) = true:=decide_eq_true c6
    have c6b1 : decide (0 < a1.size) = true:=decide_eq_true (by omega)
    clear c6
    (first | rw [c6b0] | (simp only [i64_w,i32_w];rw [c6b0]) | skip)
    have H':=Aside0.mk H
    clear H
    go_wp2_with (first | ((with_reducible refine gate_callee (f:=92) rfl ?_);refine Up.gl (some 9) Tryd.func92 #[.string a1] ?_;(with_reducible refine (spec_l1Ref.calls a1 true _ A4.out).mono ?_);rintro e w' ⟨rfl,⟨nd,rfl⟩⟩;refine ⟨_,rfl,?_⟩;have p7 : 0 ≤ (0 : Int):=(by omega);have q7 : 0 < a1.size:=(by have : (0 : Int) < (a1.size : Int):=Up.od;omega);have hx7 : ∀ h : 0 < a1.size,((a1[0]'h).toNat : Int) = bt a1 0:=bt_at a1 0;clear p7;have qi7 : (0 < (a1.size : Int)) = True:=eq_true (Up.od);replace q7:=eq_true q7))
    go_meet
    case rel => exact ⟨_,(((bt a1 0) == 38)),(by first | rfl | (simp;done) | (simp [*];done)),H',⟨by first | omega | exact Nat.le_refl _⟩,by repeat (first | exact Drawn0.refl _ | apply Drawn0.step)⟩
   ·rw [if_neg c6] at H
    exact absurd H (by simp)
  ·replace c5:=Bool.eq_false_iff.mpr c5
   subst c5
   have H1 : (spec_l1Able.j0 k l0 a1 false) = some r:=by rw [if_neg (show ¬ (false = true) by decide)] at H;exact H
   clear H
   have H:=H1
   clear H1
   have H':=Aside0.mk H
   clear H
   go_wp2_with (first | ((with_reducible refine gate_callee (f:=92) rfl ?_);refine Up.gl (some 9) Tryd.func92 #[.string a1] ?_;(with_reducible refine (spec_l1Ref.calls a1 false _ A4.out).mono ?_);rintro e w' ⟨rfl,⟨nd,rfl⟩⟩;refine ⟨_,rfl,?_⟩))
   go_meet
   case rel => exact ⟨_,(false),(by first | rfl | (simp;done) | (simp [*];done)),H',⟨by first | omega | exact Nat.le_refl _⟩,by repeat (first | exact Drawn0.refl _ | apply Drawn0.step)⟩
 case rest =>
  clear HC3
  try clear p2
  try clear c5
  try clear c6
  try clear c6b0
  try clear c6b1
  try clear p7
  try clear q7
  try clear hx7
  try clear qi7
  try clear p7
  try clear q7
  obtain ⟨kq,x14_2,rfl,HA,HJ2,⟨mc2,rfl⟩⟩:=hcut
  cases kq with
  | zero => exact absurd HA.out (by simp [spec_l1Able.j0])
  | succ kj2 =>
   have H:=HA.out
   clear HA
   simp only [spec_l1Able.j0] at H
   by_cases c8 : x14_2 = true
   ·subst c8
    have H1 : (some 3) = some r:=by rw [if_pos rfl] at H;exact H
    clear H
    have H:=H1
    clear H1
    obtain rfl:=Option.some.inj H
    go_wp2
    go_ret
    exact Up.e2
   ·replace c8:=Bool.eq_false_iff.mpr c8
    subst c8
    have H1 : ((spec_l1Ref.f a1).bind fun t174 => (if t174 = true then (some 2) else ((spec_l1Kind.f a1).bind fun bt175 => (if bt175.2.2 = true then (if 0 ≤ bt175.1 then (if bt175.1 < (l0.length : Int) then (if 0 ≤ bt175.2.1 then (if bt175.2.1 < ((rd_L4 l0 bt175.1).length : Int) then (some ((rd_T81 (rd_L4 l0 bt175.1) bt175.2.1).f0)) else (none)) else (none)) else (none)) else (none)) else (some 7))))) = some r:=by rw [if_neg (show ¬ (false = true) by decide)] at H;exact H
    clear H
    have H:=H1
    clear H1
    replace H:=Option.bind_eq_some_iff.mp H
    obtain ⟨t174,A90,H⟩:=H
    replace H : (if t174 = true then (some 2) else ((spec_l1Kind.f a1).bind fun bt175 => (if bt175.2.2 = true then (if 0 ≤ bt175.1 then (if bt175.1 < (l0.length : Int) then (if 0 ≤ bt175.2.1 then (if bt175.2.1 < ((rd_L4 l0 bt175.1).length : Int) then (some ((rd_T81 (rd_L4 l0 bt175.1) bt175.2.1).f0)) else (none)) else (none)) else (none)) else (none)) else (some 7)))) = some r:=H
    have A9:=Aside0.mk A90
    clear A90
    by_cases c10 : t174 = true
    ·subst c10
     have H1 : (some 2) = some r:=by rw [if_pos rfl] at H;exact H
     clear H
     have H:=H1
     clear H1
     obtain rfl:=Option.some.inj H
     go_wp2_with (first | ((with_reducible refine gate_callee (f:=92) rfl ?_);refine Up.gl (some 16) Tryd.func92 #[.string a1] ?_;(with_reducible refine (spec_l1Ref.calls a1 true _ A9.out).mono ?_);rintro e w' ⟨rfl,⟨nd,rfl⟩⟩;refine ⟨_,rfl,?_⟩))
     go_ret
     exact Up.e2
    ·replace c10:=Bool.eq_false_iff.mpr c10
     subst c10
     have H1 : ((spec_l1Kind.f a1).bind fun bt175 => (if bt175.2.2 = true then (if 0 ≤ bt175.1 then (if bt175.1 < (l0.length : Int) then (if 0 ≤ bt175.2.1 then (if bt175.2.1 < ((rd_L4 l0 bt175.1).length : Int) then (some ((rd_T81 (rd_L4 l0 bt175.1) bt175.2.1).f0)) else (none)) else (none)) else (none)) else (none)) else (some 7))) = some r:=by rw [if_neg (show ¬ (false = true) by decide)] at H;exact H
     clear H
     have H:=H1
     clear H1
     replace H:=Option.bind_eq_some_iff.mp H
     obtain ⟨⟨t175,t176,t177⟩,A110,H⟩:=H
     replace H : (if t177 = true then (if 0 ≤ t175 then (if t175 < (l0.length : Int) then (if 0 ≤ t176 then (if t176 < ((rd_L4 l0 t175).length : Int) then (some ((rd_T81 (rd_L4 l0 t175) t176).f0)) else (none)) else (none)) else (none)) else (none)) else (some 7)) = some r:=H
     have A11:=Aside0.mk A110
     clear A110
     by_cases c12 : t177 = true
     ·subst c12
      have H1 : (if 0 ≤ t175 then (if t175 < (l0.length : Int) then (if 0 ≤ t176 then (if t176 < ((rd_L4 l0 t175).length : Int) then (some ((rd_T81 (rd_L4 l0 t175) t176).f0)) else (none)) else (none)) else (none)) else (none)) = some r:=by rw [if_pos rfl] at H;exact H
      clear H
      have H:=H1
      clear H1
      by_cases c13 : 0 ≤ t175
      ·rw [if_pos c13] at H
       have c13b0 : decide (0 ≤ t175) = true:=decide_eq_true c13
       clear c13
       by_cases c14 : t175 < (l0.length : Int)
       ·rw [if_pos c14] at H
        have c14b0 : decide (t175 < (l0.length : Int)) = true:=decide_eq_true c14
        clear c14
        by_cases c15 : 0 ≤ t176
        ·rw [if_pos c15] at H
         have c15b0 : decide (0 ≤ t176) = true:=decide_eq_true c15
         clear c15
         by_cases c16 : t176 < ((rd_L4 l0 t175).length : Int)
         ·rw [if_pos c16] at H
          have c16b0 : decide (t176 < ((rd_L4 l0 t175).length : Int)) = true:=decide_eq_true c16
          clear c16
          obtain rfl:=Option.some.inj H
          go_wp2_with (first | ((with_reducible refine gate_callee (f:=92) rfl ?_);refine Up.gl (some 16) Tryd.func92 #[.string a1] ?_;(with_reducible refine (spec_l1Ref.calls a1 false _ A9.out).mono ?_);rintro e w' ⟨rfl,⟨nd,rfl⟩⟩;refine ⟨_,rfl,?_⟩) | ((with_reducible refine gate_callee (f:=51) rfl ?_);refine Up.gl (some 19) Tryd.func51 #[.string a1] ?_;(with_reducible refine (spec_l1Kind.calls a1 t175 t176 true _ A11.out).mono ?_);rintro e w' ⟨rfl,⟨nd,rfl⟩⟩;refine ⟨_,rfl,?_⟩;have p178 : 0 ≤ (t175 : Int):=Up.od;have q178 : t175 < (l0.length : Int):=Up.od;obtain ⟨ad178,A178_0,c178_0,e178,hx178_0,hl178_0,hi178_0⟩:=at_L4 HR0.out t175 p178 q178;cases e178;have HR178_0:=Aside0.mk hi178_0;have HC178_0:=Aside0.mk hl178_0;clear hi178_0 hl178_0;replace p178:=eq_true p178;replace q178:=eq_true q178;have p179 : 0 ≤ (t176 : Int):=Up.od;have q179 : t176 < ((rd_L4 l0 t175).length : Int):=Up.od;obtain ⟨ad179,A179_1,c179_1,e179,hx179_0,hx179_1,hl179_1,hi179_1⟩:=at_T81 HR178_0.out t176 p179 q179;cases e179;have HR179_1:=Aside0.mk hi179_1;have HC179_1:=Aside0.mk hl179_1;clear hi179_1 hl179_1;replace p179:=eq_true p179;replace q179:=eq_true q179))
          go_ret
          exact Up.e2
         ·rw [if_neg c16] at H
          exact absurd H (by simp)
        ·rw [if_neg c15] at H
         exact absurd H (by simp)
       ·rw [if_neg c14] at H
        exact absurd H (by simp)
      ·rw [if_neg c13] at H
       exact absurd H (by simp)
     ·replace c12:=Bool.eq_false_iff.mpr c12
      subst c12
      have H1 : (some 7) = some r:=by rw [if_neg (show ¬ (false = true) by decide)] at H;exact H
      clear H
      have H:=H1
      clear H1
      obtain rfl:=Option.some.inj H
      go_wp2_with (first | ((with_reducible refine gate_callee (f:=92) rfl ?_);refine Up.gl (some 16) Tryd.func92 #[.string a1] ?_;(with_reducible refine (spec_l1Ref.calls a1 false _ A9.out).mono ?_);rintro e w' ⟨rfl,⟨nd,rfl⟩⟩;refine ⟨_,rfl,?_⟩) | ((with_reducible refine gate_callee (f:=51) rfl ?_);refine Up.gl (some 19) Tryd.func51 #[.string a1] ?_;(with_reducible refine (spec_l1Kind.calls a1 t175 t176 false _ A11.out).mono ?_);rintro e w' ⟨rfl,⟨nd,rfl⟩⟩;refine ⟨_,rfl,?_⟩))
      go_ret
      exact Up.e2

/-! ### spec_l1Can: function 85 -/
def spec_l1Can.f (a0 : Int) (a1 : Int) : Option (Bool):=if a1 = 0 then (none) else (some ((Int.tmod (wrap64 (Int.tdiv a0 a1)) 2) == 1))
set_option maxHeartbeats 8000000 in
set_option maxRecDepth 100000 in
theorem spec_l1Can.calls (a0 : Int) (a1 : Int) (r : Bool) (w : World) (h : spec_l1Can.f a0 a1 = some r) :
  Calls Tryd.prog 85 #[.int .i64 a0,.int .i64 a1] w fun e w' => e = .returned (.bool r) ∧ Drawn0 w w':=by
 have H : (if a1 = 0 then (none) else (some ((Int.tmod (wrap64 (Int.tdiv a0 a1)) 2) == 1))) = some r:=h
 clear h
 by_cases c3 : a1 = 0
 ·rw [if_pos c3] at H
  exact absurd H (by simp)
 ·rw [if_neg c3] at H
  have c3b0 : (a1 == 0) = false:=beq_eq_false_iff_ne.mpr c3
  have c3b1 : (a1 != 0) = true:=bne_iff_ne.mpr c3
  obtain rfl:=Option.some.inj H
  go_enter Tryd.func85,Tryd.ntmps85
  go_wp2
  go_ret
  exact Up.e2

end Go.Proofs.YtdgmlakgnbmbbaaDoor.OFnExactValueText
