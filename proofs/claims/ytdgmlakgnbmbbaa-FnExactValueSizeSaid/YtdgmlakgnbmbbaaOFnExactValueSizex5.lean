-- Laid by a program of this session (wip/myprint.py): the kit's print of the functions, contracts of our own among them.
import Derived.Test.YtdgmlakgnbmbbaaOFnExactValueSizex0
import Derived.Test.YtdgmlakgnbmbbaaOFnExactValueSizex4
namespace Go.Proofs.Ytdgmlakgnbmbbaa.OFnExactValueSize
open Go.RowKit Go.Proofs.YtdgmlakgnbmbbaaW.PrintWords Go.Proofs.YtdgmlakgnbmbbaaW.PrintLast Go.Proofs.YtdgmlakgnbmbbaaW.PrintMore
attribute [local go_sem] max2_int min2_int max_two min_two max_three min_three max_four min_four   -- for this text's walks alone
set_option linter.unusedVariables false
set_option linter.unusedSimpArgs false

/-! ### spec_l1Base: function 93 -/
def spec_l1Base.f (a0 : ByteArray) : Option (Bool):=if a0.toList = ([110] : List UInt8) then (some true) else (if a0.toList = ([98] : List UInt8) then (some true) else (some (a0.toList == ([111] : List UInt8))))
set_option maxHeartbeats 8000000 in
set_option maxRecDepth 100000 in
theorem spec_l1Base.calls (a0 : ByteArray) (r : Bool) (w : World) (h : spec_l1Base.f a0 = some r) :
  Calls Try.prog 93 #[.string a0] w fun e w' => e = .returned (.bool r) ∧ Drawn0 w w':=by
 have H : (if a0.toList = ([110] : List UInt8) then (some true) else (if a0.toList = ([98] : List UInt8) then (some true) else (some (a0.toList == ([111] : List UInt8))))) = some r:=h
 clear h
 by_cases c2 : a0.toList = ([110] : List UInt8)
 ·rw [if_pos c2] at H
  have c2b0 : (a0.toList == ([110] : List UInt8)) = true:=beq_iff_eq.mpr c2
  have c2b1 : (a0.toList != ([110] : List UInt8)) = false:=bne_eq_false_iff_eq.mpr c2
  clear c2
  obtain rfl:=Option.some.inj H
  go_enter Try.func93,Try.ntmps93
  go_wp2
  go_ret
  exact ⟨by first | rfl | (simp;done) | (simp [*];done),by repeat (first | exact Drawn0.refl _ | apply Drawn0.step)⟩
 ·rw [if_neg c2] at H
  have c2b0 : (a0.toList == ([110] : List UInt8)) = false:=beq_eq_false_iff_ne.mpr c2
  have c2b1 : (a0.toList != ([110] : List UInt8)) = true:=bne_iff_ne.mpr c2
  by_cases c3 : a0.toList = ([98] : List UInt8)
  ·rw [if_pos c3] at H
   have c3b0 : (a0.toList == ([98] : List UInt8)) = true:=beq_iff_eq.mpr c3
   have c3b1 : (a0.toList != ([98] : List UInt8)) = false:=bne_eq_false_iff_eq.mpr c3
   clear c3
   obtain rfl:=Option.some.inj H
   go_enter Try.func93,Try.ntmps93
   go_wp2
   go_ret
   exact ⟨by first | rfl | (simp;done) | (simp [*];done),by repeat (first | exact Drawn0.refl _ | apply Drawn0.step)⟩
  ·rw [if_neg c3] at H
   have c3b0 : (a0.toList == ([98] : List UInt8)) = false:=beq_eq_false_iff_ne.mpr c3
   have c3b1 : (a0.toList != ([98] : List UInt8)) = true:=bne_iff_ne.mpr c3
   obtain rfl:=Option.some.inj H
   go_enter Try.func93,Try.ntmps93
   go_wp2
   go_ret
   exact ⟨by first | rfl | (simp;done) | (simp [*];done),by repeat (first | exact Drawn0.refl _ | apply Drawn0.step)⟩

/-! ### spec_l1Field: function 125 -/
def spec_l1Field.f (l0 : List (List (S113))) (a1 : Int) (a2 : Int) (a3 : ByteArray) : Option (Bool):=(spec_l1Kind.f a3).bind fun bt162 => (if bt162.2.2 = true then ((spec_l1Has.f l0 bt162.1 bt162.2.1).bind fun t165 => (if t165 = true then (if bt162.1 < a1 then (some true) else (if bt162.1 = a1 then (some (decide (bt162.2.1 < a2))) else (some false))) else (some false))) else ((spec_l1Base.f a3).bind fun t166 => (some t166)))
set_option maxHeartbeats 8000000 in
set_option maxRecDepth 100000 in
theorem spec_l1Field.calls (A0 : Option Addr) (c0 : Nat) (l0 : List (List (S113))) (a1 : Int) (a2 : Int) (a3 : ByteArray) (r : Bool) (w : World) (hr0 : Kd.C (Kd.slice 113 k113) w A0 l0.length l0) (hc0 : l0.length ≤ c0) (h : spec_l1Field.f l0 a1 a2 a3 = some r) :
  Calls Try.prog 125 #[.slice A0 l0.length c0,.int .i64 a1,.int .i64 a2,.string a3] w fun e w' => e = .returned (.bool r) ∧ Drawn0 w w':=by
 have HR0:=Aside0.mk hr0
 have HC0:=Aside0.mk hc0
 clear hr0 hc0
 have H : ((spec_l1Kind.f a3).bind fun bt162 => (if bt162.2.2 = true then ((spec_l1Has.f l0 bt162.1 bt162.2.1).bind fun t165 => (if t165 = true then (if bt162.1 < a1 then (some true) else (if bt162.1 = a1 then (some (decide (bt162.2.1 < a2))) else (some false))) else (some false))) else ((spec_l1Base.f a3).bind fun t166 => (some t166)))) = some r:=h
 clear h
 replace H:=Option.bind_eq_some_iff.mp H
 obtain ⟨⟨t162,t163,t164⟩,A50,H⟩:=H
 replace H : (if t164 = true then ((spec_l1Has.f l0 t162 t163).bind fun t165 => (if t165 = true then (if t162 < a1 then (some true) else (if t162 = a1 then (some (decide (t163 < a2))) else (some false))) else (some false))) else ((spec_l1Base.f a3).bind fun t166 => (some t166))) = some r:=H
 have A5:=Aside0.mk A50
 clear A50
 by_cases c6 : t164 = true
 ·subst c6
  have H1 : ((spec_l1Has.f l0 t162 t163).bind fun t165 => (if t165 = true then (if t162 < a1 then (some true) else (if t162 = a1 then (some (decide (t163 < a2))) else (some false))) else (some false))) = some r:=by rw [if_pos rfl] at H;exact H
  clear H
  have H:=H1
  clear H1
  replace H:=Option.bind_eq_some_iff.mp H
  obtain ⟨t165,A70,H⟩:=H
  replace H : (if t165 = true then (if t162 < a1 then (some true) else (if t162 = a1 then (some (decide (t163 < a2))) else (some false))) else (some false)) = some r:=H
  have A7:=Aside0.mk A70
  clear A70
  by_cases c8 : t165 = true
  ·subst c8
   have H1 : (if t162 < a1 then (some true) else (if t162 = a1 then (some (decide (t163 < a2))) else (some false))) = some r:=by rw [if_pos rfl] at H;exact H
   clear H
   have H:=H1
   clear H1
   by_cases c9 : t162 < a1
   ·rw [if_pos c9] at H
    have c9b0 : decide (t162 < a1) = true:=decide_eq_true c9
    clear c9
    obtain rfl:=Option.some.inj H
    go_enter Try.func125,Try.ntmps125
    go_wp2_with (first | ((with_reducible refine gate_callee (f:=50) rfl ?_);refine goesL_ (some 14) rfl rfl Try.func50 (by kernel_rfl) rfl #[.string a3] rfl (by (try simp only [List.map_toArray,List.map_cons,List.map_nil]);first | done | rfl | (simp only [List.length_drop,List.length_take];rfl)) ?_;(with_reducible refine (spec_l1Kind.calls a3 t162 t163 true _ A5.out).mono ?_);rintro e w' ⟨rfl,⟨nd,rfl⟩⟩;refine ⟨_,rfl,?_⟩) | ((with_reducible refine gate_callee (f:=87) rfl ?_);refine goesL_ (some 25) rfl rfl Try.func87 (by kernel_rfl) rfl #[.slice A0 l0.length c0,.int .i64 t162,.int .i64 t163] rfl (by (try simp only [List.map_toArray,List.map_cons,List.map_nil]);first | done | rfl | (simp only [List.length_drop,List.length_take];rfl)) ?_;(with_reducible refine (spec_l1Has.calls _ _ l0 t162 t163 true _ ?side1 ?side2 A7.out).mono ?_);(case side1 => repeat (first | exact HR0.out | (with_reducible refine Kd.C_alloc ?_ _) | (with_reducible refine Kd.C_drewN ?_ _) | (with_reducible refine Kd.C_drew ?_)));(case side2 => exact HC0.out);rintro e w' ⟨rfl,⟨nd,rfl⟩⟩;refine ⟨_,rfl,?_⟩))
    go_ret
    exact ⟨by first | rfl | (simp;done) | (simp [*];done),by repeat (first | exact Drawn0.refl _ | apply Drawn0.step)⟩
   ·rw [if_neg c9] at H
    have c9b0 : decide (t162 < a1) = false:=decide_eq_false c9
    clear c9
    by_cases c10 : t162 = a1
    ·rw [if_pos c10] at H
     have c10b0 : (t162 == a1) = true:=beq_iff_eq.mpr c10
     have c10b1 : (t162 != a1) = false:=bne_eq_false_iff_eq.mpr c10
     clear c10
     obtain rfl:=Option.some.inj H
     go_enter Try.func125,Try.ntmps125
     go_wp2_with (first | ((with_reducible refine gate_callee (f:=50) rfl ?_);refine goesL_ (some 14) rfl rfl Try.func50 (by kernel_rfl) rfl #[.string a3] rfl (by (try simp only [List.map_toArray,List.map_cons,List.map_nil]);first | done | rfl | (simp only [List.length_drop,List.length_take];rfl)) ?_;(with_reducible refine (spec_l1Kind.calls a3 t162 t163 true _ A5.out).mono ?_);rintro e w' ⟨rfl,⟨nd,rfl⟩⟩;refine ⟨_,rfl,?_⟩) | ((with_reducible refine gate_callee (f:=87) rfl ?_);refine goesL_ (some 25) rfl rfl Try.func87 (by kernel_rfl) rfl #[.slice A0 l0.length c0,.int .i64 t162,.int .i64 t163] rfl (by (try simp only [List.map_toArray,List.map_cons,List.map_nil]);first | done | rfl | (simp only [List.length_drop,List.length_take];rfl)) ?_;(with_reducible refine (spec_l1Has.calls _ _ l0 t162 t163 true _ ?side1 ?side2 A7.out).mono ?_);(case side1 => repeat (first | exact HR0.out | (with_reducible refine Kd.C_alloc ?_ _) | (with_reducible refine Kd.C_drewN ?_ _) | (with_reducible refine Kd.C_drew ?_)));(case side2 => exact HC0.out);rintro e w' ⟨rfl,⟨nd,rfl⟩⟩;refine ⟨_,rfl,?_⟩))
     go_ret
     exact ⟨by first | rfl | (simp;done) | (simp [*];done),by repeat (first | exact Drawn0.refl _ | apply Drawn0.step)⟩
    ·rw [if_neg c10] at H
     have c10b0 : (t162 == a1) = false:=beq_eq_false_iff_ne.mpr c10
     have c10b1 : (t162 != a1) = true:=bne_iff_ne.mpr c10
     obtain rfl:=Option.some.inj H
     go_enter Try.func125,Try.ntmps125
     go_wp2_with (first | ((with_reducible refine gate_callee (f:=50) rfl ?_);refine goesL_ (some 14) rfl rfl Try.func50 (by kernel_rfl) rfl #[.string a3] rfl (by (try simp only [List.map_toArray,List.map_cons,List.map_nil]);first | done | rfl | (simp only [List.length_drop,List.length_take];rfl)) ?_;(with_reducible refine (spec_l1Kind.calls a3 t162 t163 true _ A5.out).mono ?_);rintro e w' ⟨rfl,⟨nd,rfl⟩⟩;refine ⟨_,rfl,?_⟩) | ((with_reducible refine gate_callee (f:=87) rfl ?_);refine goesL_ (some 25) rfl rfl Try.func87 (by kernel_rfl) rfl #[.slice A0 l0.length c0,.int .i64 t162,.int .i64 t163] rfl (by (try simp only [List.map_toArray,List.map_cons,List.map_nil]);first | done | rfl | (simp only [List.length_drop,List.length_take];rfl)) ?_;(with_reducible refine (spec_l1Has.calls _ _ l0 t162 t163 true _ ?side1 ?side2 A7.out).mono ?_);(case side1 => repeat (first | exact HR0.out | (with_reducible refine Kd.C_alloc ?_ _) | (with_reducible refine Kd.C_drewN ?_ _) | (with_reducible refine Kd.C_drew ?_)));(case side2 => exact HC0.out);rintro e w' ⟨rfl,⟨nd,rfl⟩⟩;refine ⟨_,rfl,?_⟩))
     go_ret
     exact ⟨by first | rfl | (simp;done) | (simp [*];done),by repeat (first | exact Drawn0.refl _ | apply Drawn0.step)⟩
  ·replace c8:=Bool.eq_false_iff.mpr c8
   subst c8
   have H1 : (some false) = some r:=by rw [if_neg (show ¬ (false = true) by decide)] at H;exact H
   clear H
   have H:=H1
   clear H1
   obtain rfl:=Option.some.inj H
   go_enter Try.func125,Try.ntmps125
   go_wp2_with (first | ((with_reducible refine gate_callee (f:=50) rfl ?_);refine goesL_ (some 14) rfl rfl Try.func50 (by kernel_rfl) rfl #[.string a3] rfl (by (try simp only [List.map_toArray,List.map_cons,List.map_nil]);first | done | rfl | (simp only [List.length_drop,List.length_take];rfl)) ?_;(with_reducible refine (spec_l1Kind.calls a3 t162 t163 true _ A5.out).mono ?_);rintro e w' ⟨rfl,⟨nd,rfl⟩⟩;refine ⟨_,rfl,?_⟩) | ((with_reducible refine gate_callee (f:=87) rfl ?_);refine goesL_ (some 25) rfl rfl Try.func87 (by kernel_rfl) rfl #[.slice A0 l0.length c0,.int .i64 t162,.int .i64 t163] rfl (by (try simp only [List.map_toArray,List.map_cons,List.map_nil]);first | done | rfl | (simp only [List.length_drop,List.length_take];rfl)) ?_;(with_reducible refine (spec_l1Has.calls _ _ l0 t162 t163 false _ ?side1 ?side2 A7.out).mono ?_);(case side1 => repeat (first | exact HR0.out | (with_reducible refine Kd.C_alloc ?_ _) | (with_reducible refine Kd.C_drewN ?_ _) | (with_reducible refine Kd.C_drew ?_)));(case side2 => exact HC0.out);rintro e w' ⟨rfl,⟨nd,rfl⟩⟩;refine ⟨_,rfl,?_⟩))
   go_ret
   exact ⟨by first | rfl | (simp;done) | (simp [*];done),by repeat (first | exact Drawn0.refl _ | apply Drawn0.step)⟩
 ·replace c6:=Bool.eq_false_iff.mpr c6
  subst c6
  have H1 : ((spec_l1Base.f a3).bind fun t166 => (some t166)) = some r:=by rw [if_neg (show ¬ (false = true) by decide)] at H;exact H
  clear H
  have H:=H1
  clear H1
  replace H:=Option.bind_eq_some_iff.mp H
  obtain ⟨t166,A110,H⟩:=H
  replace H : (some t166) = some r:=H
  have A11:=Aside0.mk A110
  clear A110
  obtain rfl:=Option.some.inj H
  go_enter Try.func125,Try.ntmps125
  go_wp2_with (first | ((with_reducible refine gate_callee (f:=50) rfl ?_);refine goesL_ (some 14) rfl rfl Try.func50 (by kernel_rfl) rfl #[.string a3] rfl (by (try simp only [List.map_toArray,List.map_cons,List.map_nil]);first | done | rfl | (simp only [List.length_drop,List.length_take];rfl)) ?_;(with_reducible refine (spec_l1Kind.calls a3 t162 t163 false _ A5.out).mono ?_);rintro e w' ⟨rfl,⟨nd,rfl⟩⟩;refine ⟨_,rfl,?_⟩) | ((with_reducible refine gate_callee (f:=93) rfl ?_);refine goesL_ (some 21) rfl rfl Try.func93 (by kernel_rfl) rfl #[.string a3] rfl (by (try simp only [List.map_toArray,List.map_cons,List.map_nil]);first | done | rfl | (simp only [List.length_drop,List.length_take];rfl)) ?_;(with_reducible refine (spec_l1Base.calls a3 t166 _ A11.out).mono ?_);rintro e w' ⟨rfl,⟨nd,rfl⟩⟩;refine ⟨_,rfl,?_⟩))
  go_ret
  exact ⟨by first | rfl | (simp;done) | (simp [*];done),by repeat (first | exact Drawn0.refl _ | apply Drawn0.step)⟩

/-! ### spec_l1Record: function 116 -/
mutual
def spec_l1Record.j0 : Nat → List (List (S113)) → Int → Int → Bool → Int → List ByteArray → Option (Bool)
 | 0,_,_,_,_,_,_ => none
 | k + 1,x0,x1,x2,x26,x170000,x170001 => if x26 = true then (some false) else (spec_l1Record.l0 k x0 x1 x2 0 x170000 x170001)
def spec_l1Record.l0 : Nat → List (List (S113)) → Int → Int → Int → Int → List ByteArray → Option (Bool)
 | 0,_,_,_,_,_,_ => none
 | k + 1,x0,x1,x2,x8,x170000,x170001 => if x8 < (x170001.length : Int) then (if 0 ≤ x8 then ((spec_l1Field.f x0 x1 x2 (rdOf ByteArray.empty x170001 x8)).bind fun t172 => (if t172 = true then ((spec_l1Able.f k x0 (rdOf ByteArray.empty x170001 x8)).bind fun t174 => ((spec_l1Can.f x170000 1).bind fun t175 => (if t175 = true then ((spec_l1Can.f t174 1).bind fun t176 => (if t176 = true then ((spec_l1Can.f x170000 2).bind fun t177 => (if t177 = true then ((spec_l1Can.f t174 2).bind fun t178 => (spec_l1Record.j2 k x0 x1 x2 x8 t174 (!t178) x170000 x170001)) else (spec_l1Record.j2 k x0 x1 x2 x8 t174 false x170000 x170001))) else (spec_l1Record.j2 k x0 x1 x2 x8 t174 true x170000 x170001))) else ((spec_l1Can.f x170000 2).bind fun t179 => (if t179 = true then ((spec_l1Can.f t174 2).bind fun t180 => (spec_l1Record.j2 k x0 x1 x2 x8 t174 (!t180) x170000 x170001)) else (spec_l1Record.j2 k x0 x1 x2 x8 t174 false x170000 x170001)))))) else (some false))) else (none)) else (some true)
def spec_l1Record.j2 : Nat → List (List (S113)) → Int → Int → Int → Int → Bool → Int → List ByteArray → Option (Bool)
 | 0,_,_,_,_,_,_,_,_ => none
 | k + 1,x0,x1,x2,x8,x9,x68,x170000,x170001 => if x68 = true then (some false) else (if x170000 ≥ 4 then ((spec_l1Can.f x9 4).bind fun t181 => (if t181 = true then (spec_l1Record.l0 k x0 x1 x2 (wrap64 (x8 + 1)) x170000 x170001) else (some false))) else (spec_l1Record.l0 k x0 x1 x2 (wrap64 (x8 + 1)) x170000 x170001))
end
def spec_l1Record.f (k : Nat) (l0 : List (List (S113))) (a1 : Int) (a2 : Int) : Option (Bool):=if 0 ≤ a1 then (if a1 < (l0.length : Int) then (if 0 ≤ a2 then (if a2 < ((rd_L4 l0 a1).length : Int) then ((spec_l6In.f ((rd_T113 (rd_L4 l0 a1) a2).f0) 0 15).bind fun t170 => (if t170 = true then (spec_l1Record.j0 k l0 a1 a2 (decide ((((rd_T113 (rd_L4 l0 a1) a2).f1).length : Int) > 3)) ((rd_T113 (rd_L4 l0 a1) a2).f0) ((rd_T113 (rd_L4 l0 a1) a2).f1)) else (spec_l1Record.j0 k l0 a1 a2 true ((rd_T113 (rd_L4 l0 a1) a2).f0) ((rd_T113 (rd_L4 l0 a1) a2).f1)))) else (none)) else (none)) else (none)) else (none)
theorem spec_l1Record.mono_l : ∀ k,(∀ y0 y1 y2 y3 y4 y5,LeO (spec_l1Record.j0 k y0 y1 y2 y3 y4 y5) (spec_l1Record.j0 (k + 1) y0 y1 y2 y3 y4 y5)) ∧ (∀ y0 y1 y2 y3 y4 y5,LeO (spec_l1Record.l0 k y0 y1 y2 y3 y4 y5) (spec_l1Record.l0 (k + 1) y0 y1 y2 y3 y4 y5)) ∧ (∀ y0 y1 y2 y3 y4 y5 y6 y7,LeO (spec_l1Record.j2 k y0 y1 y2 y3 y4 y5 y6 y7) (spec_l1Record.j2 (k + 1) y0 y1 y2 y3 y4 y5 y6 y7))
 | 0 => ⟨fun _ _ _ _ _ _ r h => by simp [spec_l1Record.j0] at h,fun _ _ _ _ _ _ r h => by simp [spec_l1Record.l0] at h,fun _ _ _ _ _ _ _ _ r h => by simp [spec_l1Record.j2] at h⟩
 | k + 1 => by
  obtain ⟨ih0,ih1,ih2⟩:=spec_l1Record.mono_l k
  refine ⟨?_,?_,?_⟩
  ·intro y0 y1 y2 y3 y4 y5
   unfold spec_l1Record.j0
   repeat' first
   | (with_reducible exact ih0 _ _ _ _ _ _)
   | (with_reducible exact ih1 _ _ _ _ _ _)
   | (with_reducible exact ih2 _ _ _ _ _ _ _ _)
   | (with_reducible exact spec_l1Able.mono _ _ _)
   | (with_reducible exact LeO.refl _)
   | (with_reducible exact LeO.none _)
   | (with_reducible refine LeO.ite ?_ ?_)
   | (with_reducible refine LeO.bind ?_ (fun _ => ?_))
   | exact ih0 _ _ _ _ _ _
   | exact ih1 _ _ _ _ _ _
   | exact ih2 _ _ _ _ _ _ _ _
   | exact spec_l1Able.mono _ _ _
   | exact LeO.none _
   | refine LeO.ite ?_ ?_
   | refine LeO.bind ?_ (fun _ => ?_)
  ·intro y0 y1 y2 y3 y4 y5
   unfold spec_l1Record.l0
   repeat' first
   | (with_reducible exact ih0 _ _ _ _ _ _)
   | (with_reducible exact ih1 _ _ _ _ _ _)
   | (with_reducible exact ih2 _ _ _ _ _ _ _ _)
   | (with_reducible exact spec_l1Able.mono _ _ _)
   | (with_reducible exact LeO.refl _)
   | (with_reducible exact LeO.none _)
   | (with_reducible refine LeO.ite ?_ ?_)
   | (with_reducible refine LeO.bind ?_ (fun _ => ?_))
   | exact ih0 _ _ _ _ _ _
   | exact ih1 _ _ _ _ _ _
   | exact ih2 _ _ _ _ _ _ _ _
   | exact spec_l1Able.mono _ _ _
   | exact LeO.none _
   | refine LeO.ite ?_ ?_
   | refine LeO.bind ?_ (fun _ => ?_)
  ·intro y0 y1 y2 y3 y4 y5 y6 y7
   unfold spec_l1Record.j2
   repeat' first
   | (with_reducible exact ih0 _ _ _ _ _ _)
   | (with_reducible exact ih1 _ _ _ _ _ _)
   | (with_reducible exact ih2 _ _ _ _ _ _ _ _)
   | (with_reducible exact spec_l1Able.mono _ _ _)
   | (with_reducible exact LeO.refl _)
   | (with_reducible exact LeO.none _)
   | (with_reducible refine LeO.ite ?_ ?_)
   | (with_reducible refine LeO.bind ?_ (fun _ => ?_))
   | exact ih0 _ _ _ _ _ _
   | exact ih1 _ _ _ _ _ _
   | exact ih2 _ _ _ _ _ _ _ _
   | exact spec_l1Able.mono _ _ _
   | exact LeO.none _
   | refine LeO.ite ?_ ?_
   | refine LeO.bind ?_ (fun _ => ?_)
theorem spec_l1Record.mono : ∀ a0 a1 a2 k,LeO (spec_l1Record.f k a0 a1 a2) (spec_l1Record.f (k + 1) a0 a1 a2):=by
 intro a0 a1 a2 k
 obtain ⟨ih0,ih1,ih2⟩:=spec_l1Record.mono_l k
 unfold spec_l1Record.f
 repeat' first
   | (with_reducible exact ih0 _ _ _ _ _ _)
   | (with_reducible exact ih1 _ _ _ _ _ _)
   | (with_reducible exact ih2 _ _ _ _ _ _ _ _)
   | (with_reducible exact spec_l1Able.mono _ _ _)
   | (with_reducible exact LeO.refl _)
   | (with_reducible exact LeO.none _)
   | (with_reducible refine LeO.ite ?_ ?_)
   | (with_reducible refine LeO.bind ?_ (fun _ => ?_))
   | exact ih0 _ _ _ _ _ _
   | exact ih1 _ _ _ _ _ _
   | exact ih2 _ _ _ _ _ _ _ _
   | exact spec_l1Able.mono _ _ _
   | exact LeO.none _
   | refine LeO.ite ?_ ?_
   | refine LeO.bind ?_ (fun _ => ?_)
set_option maxHeartbeats 8000000 in
set_option maxRecDepth 100000 in
theorem spec_l1Record.calls (k : Nat) (A0 : Option Addr) (c0 : Nat) (l0 : List (List (S113))) (a1 : Int) (a2 : Int) (r : Bool) (w : World) (hr0 : Kd.C (Kd.slice 113 k113) w A0 l0.length l0) (hc0 : l0.length ≤ c0) (h : spec_l1Record.f k l0 a1 a2 = some r) :
  Calls Try.prog 116 #[.slice A0 l0.length c0,.int .i64 a1,.int .i64 a2] w fun e w' => e = .returned (.bool r) ∧ Below w.heap.size w w':=by
 have hu113:=Try.underlying113
 have HR0:=Aside0.mk hr0
 have HC0:=Aside0.mk hc0
 clear hr0 hc0
 have HB:=Aside0.mk (Below.refl w.heap.size w)
 have H : (if 0 ≤ a1 then (if a1 < (l0.length : Int) then (if 0 ≤ a2 then (if a2 < ((rd_L4 l0 a1).length : Int) then ((spec_l6In.f ((rd_T113 (rd_L4 l0 a1) a2).f0) 0 15).bind fun t170 => (if t170 = true then (spec_l1Record.j0 k l0 a1 a2 (decide ((((rd_T113 (rd_L4 l0 a1) a2).f1).length : Int) > 3)) ((rd_T113 (rd_L4 l0 a1) a2).f0) ((rd_T113 (rd_L4 l0 a1) a2).f1)) else (spec_l1Record.j0 k l0 a1 a2 true ((rd_T113 (rd_L4 l0 a1) a2).f0) ((rd_T113 (rd_L4 l0 a1) a2).f1)))) else (none)) else (none)) else (none)) else (none)) = some r:=h
 clear h
 by_cases c4 : 0 ≤ a1
 ·rw [if_pos c4] at H
  have c4b0 : decide (0 ≤ a1) = true:=decide_eq_true c4
  clear c4
  by_cases c5 : a1 < (l0.length : Int)
  ·rw [if_pos c5] at H
   have c5b0 : decide (a1 < (l0.length : Int)) = true:=decide_eq_true c5
   clear c5
   by_cases c6 : 0 ≤ a2
   ·rw [if_pos c6] at H
    have c6b0 : decide (0 ≤ a2) = true:=decide_eq_true c6
    clear c6
    by_cases c7 : a2 < ((rd_L4 l0 a1).length : Int)
    ·rw [if_pos c7] at H
     have c7b0 : decide (a2 < ((rd_L4 l0 a1).length : Int)) = true:=decide_eq_true c7
     clear c7
     have HC8:=Aside0.mk H
     clear H
     have p167 : 0 ≤ (a1 : Int):=of_decide_eq_true (by first | (with_reducible assumption) | assumption)
     have q167 : a1 < (l0.length : Int):=of_decide_eq_true (by first | (with_reducible assumption) | assumption)
     obtain ⟨ad167,A167_0,c167_0,e167,hx167_0,hl167_0,hi167_0⟩:=at_L4 HR0.out a1 p167 q167
     cases e167
     have HR167_0:=Aside0.mk hi167_0
     have HC167_0:=Aside0.mk hl167_0
     clear hi167_0 hl167_0
     replace p167:=eq_true p167
     replace q167:=eq_true q167
     have p168 : 0 ≤ (a2 : Int):=of_decide_eq_true (by first | (with_reducible assumption) | assumption)
     have q168 : a2 < ((rd_L4 l0 a1).length : Int):=of_decide_eq_true (by first | (with_reducible assumption) | assumption)
     obtain ⟨ad168,A168_1,c168_1,e168,hx168_0,hx168_1,hl168_1,hi168_1⟩:=at_T113 HR167_0.out a2 p168 q168
     cases e168
     have HR168_1:=Aside0.mk hi168_1
     have HC168_1:=Aside0.mk hl168_1
     clear hi168_1 hl168_1
     replace p168:=eq_true p168
     replace q168:=eq_true q168
     go_enter Try.func116,Try.ntmps116
     go_upto_region 2 with (first | ((with_reducible refine gate_dst (N:=7) rfl ?_);(try (refine gate_guard (by rfl) ?_;dsimp only));refine box_event ?hg (N:=7) ?hd (cs:=#[.int .i64 0,.slice none 0 0]) (t:=113) ?hr ?_;(case hd => rfl);(case hg => rfl);(case hr => first | (go_simp;done) | (go_simp;rfl));intro gb169 hg w9 hbox hb;have n0_:=Up.BB HB hb;have n1_:=Aside0.mk (hbox);have n2_:=Aside0.mk ((by rw [hg];exact (below_size (Up.Bup HB)) : w.heap.size ≤ gb169));have n3_:=Aside0.mk ((by rw [hg];exact (below_size (Up.Bup HB)) : w.heap.size ≤ gb169));clear HB;have HB:=n0_;have BK169:=n1_;have GW169:=n2_;have GE169:=n3_;clear n0_ n1_ n2_ n3_;clear hb hbox hg;have hcz10_0 : w9.cell? ⟨gb169,0,none⟩ = some (.int .i64 0):=(blk_cell BK169.out 0).trans rfl;have hcz10_1 : w9.cell? ⟨gb169,1,none⟩ = some (.slice none 0 0):=(blk_cell BK169.out 1).trans rfl;have hfz10_0:=blk_frozen BK169.out 0;have hfz10_1:=blk_frozen BK169.out 1))
     (try simp only [Act.put,List.setIfInBounds_toArray,List.set_cons_zero,List.set_cons_succ])
     go_cut [26] (fun v26 wc => ∃ (kq : Nat) (x26_7 : Bool),v26 = .bool x26_7 ∧ Aside0 (spec_l1Record.j0 kq l0 a1 a2 x26_7 ((rd_T113 (rd_L4 l0 a1) a2).f0) ((rd_T113 (rd_L4 l0 a1) a2).f1) = some r) ∧ Aside0 (kq ≤ k) ∧ Aside0 (wc.heap[gb169]? = some (.cells #[.int .i64 ((rd_T113 (rd_L4 l0 a1) a2).f0),(.slice A168_1 ((rd_T113 (rd_L4 l0 a1) a2).f1).length c168_1)] 113 (0,0))) ∧ Aside0 (Below w.heap.size w wc))
     case first =>
      have H:=HC8.out
      clear HC8
      replace H:=Option.bind_eq_some_iff.mp H
      obtain ⟨t170,A110,H⟩:=H
      replace H : (if t170 = true then (spec_l1Record.j0 k l0 a1 a2 (decide ((((rd_T113 (rd_L4 l0 a1) a2).f1).length : Int) > 3)) ((rd_T113 (rd_L4 l0 a1) a2).f0) ((rd_T113 (rd_L4 l0 a1) a2).f1)) else (spec_l1Record.j0 k l0 a1 a2 true ((rd_T113 (rd_L4 l0 a1) a2).f0) ((rd_T113 (rd_L4 l0 a1) a2).f1))) = some r:=H
      have A11:=Aside0.mk A110
      clear A110
      by_cases c12 : t170 = true
      ·subst c12
       have H1 : (spec_l1Record.j0 k l0 a1 a2 (decide ((((rd_T113 (rd_L4 l0 a1) a2).f1).length : Int) > 3)) ((rd_T113 (rd_L4 l0 a1) a2).f0) ((rd_T113 (rd_L4 l0 a1) a2).f1)) = some r:=by rw [if_pos rfl] at H;exact H
       clear H
       have H:=H1
       clear H1
       have H':=Aside0.mk H
       clear H
       have hcz13_0 : w9.cell? ⟨gb169,0,none⟩ = some (.int .i64 0):=(blk_cell BK169.out 0).trans rfl
       have hcz13_1 : w9.cell? ⟨gb169,1,none⟩ = some (.slice none 0 0):=(blk_cell BK169.out 1).trans rfl
       have hfz13_0:=blk_frozen BK169.out 0
       have hfz13_1:=blk_frozen BK169.out 1
       go_wp2_with (first | ((with_reducible refine gate_callee (f:=97) rfl ?_);refine goesL_ (some 19) rfl rfl Try.func97 (by kernel_rfl) rfl #[.int .i64 ((rd_T113 (rd_L4 l0 a1) a2).f0),.int .i64 0,.int .i64 15] rfl (by (try simp only [List.map_toArray,List.map_cons,List.map_nil]);first | done | rfl | (simp only [List.length_drop,List.length_take];rfl)) ?_;(with_reducible refine (spec_l6In.calls ((rd_T113 (rd_L4 l0 a1) a2).f0) 0 15 true _ A11.out).mono ?_);rintro e w' ⟨rfl,⟨nd,rfl⟩⟩;refine ⟨_,rfl,?_⟩))
       go_meet
       case rel => exact ⟨_,(decide ((((rd_T113 (rd_L4 l0 a1) a2).f1).length : Int) > 3)),(by first | rfl | (simp;done) | (simp [*];done)),H',⟨by first | omega | exact Nat.le_refl _⟩,⟨by (with_reducible repeat (first | refine blk_drewN ?_ _ | refine blk_drew ?_ | refine blk_alloc ?_ _));refine blk_put (cs:=#[.int .i64 ((rd_T113 (rd_L4 l0 a1) a2).f0),.slice none 0 0]) ?_ 1 _ rfl;(with_reducible repeat (first | refine blk_drewN ?_ _ | refine blk_drew ?_ | refine blk_alloc ?_ _));refine blk_put (cs:=#[.int .i64 0,.slice none 0 0]) ?_ 0 _ rfl;(with_reducible repeat (first | refine blk_drewN ?_ _ | refine blk_drew ?_ | refine blk_alloc ?_ _));exact BK169.out⟩,⟨by repeat (first | (with_reducible first | exact HB.out | apply below_alloc | apply pw_below_drewN | apply below_drew1 | refine below_set ?_ GE169.out) | exact HB.out)⟩⟩
      ·replace c12:=Bool.eq_false_iff.mpr c12
       subst c12
       have H1 : (spec_l1Record.j0 k l0 a1 a2 true ((rd_T113 (rd_L4 l0 a1) a2).f0) ((rd_T113 (rd_L4 l0 a1) a2).f1)) = some r:=by rw [if_neg (show ¬ (false = true) by decide)] at H;exact H
       clear H
       have H:=H1
       clear H1
       have H':=Aside0.mk H
       clear H
       have hcz14_0 : w9.cell? ⟨gb169,0,none⟩ = some (.int .i64 0):=(blk_cell BK169.out 0).trans rfl
       have hcz14_1 : w9.cell? ⟨gb169,1,none⟩ = some (.slice none 0 0):=(blk_cell BK169.out 1).trans rfl
       have hfz14_0:=blk_frozen BK169.out 0
       have hfz14_1:=blk_frozen BK169.out 1
       go_wp2_with (first | ((with_reducible refine gate_callee (f:=97) rfl ?_);refine goesL_ (some 19) rfl rfl Try.func97 (by kernel_rfl) rfl #[.int .i64 ((rd_T113 (rd_L4 l0 a1) a2).f0),.int .i64 0,.int .i64 15] rfl (by (try simp only [List.map_toArray,List.map_cons,List.map_nil]);first | done | rfl | (simp only [List.length_drop,List.length_take];rfl)) ?_;(with_reducible refine (spec_l6In.calls ((rd_T113 (rd_L4 l0 a1) a2).f0) 0 15 false _ A11.out).mono ?_);rintro e w' ⟨rfl,⟨nd,rfl⟩⟩;refine ⟨_,rfl,?_⟩))
       go_meet
       case rel => exact ⟨_,(true),(by first | rfl | (simp;done) | (simp [*];done)),H',⟨by first | omega | exact Nat.le_refl _⟩,⟨by (with_reducible repeat (first | refine blk_drewN ?_ _ | refine blk_drew ?_ | refine blk_alloc ?_ _));refine blk_put (cs:=#[.int .i64 ((rd_T113 (rd_L4 l0 a1) a2).f0),.slice none 0 0]) ?_ 1 _ rfl;(with_reducible repeat (first | refine blk_drewN ?_ _ | refine blk_drew ?_ | refine blk_alloc ?_ _));refine blk_put (cs:=#[.int .i64 0,.slice none 0 0]) ?_ 0 _ rfl;(with_reducible repeat (first | refine blk_drewN ?_ _ | refine blk_drew ?_ | refine blk_alloc ?_ _));exact BK169.out⟩,⟨by repeat (first | (with_reducible first | exact HB.out | apply below_alloc | apply pw_below_drewN | apply below_drew1 | refine below_set ?_ GE169.out) | exact HB.out)⟩⟩
     case rest =>
      clear HC8
      try clear c1
      try clear p1
      try clear q1
      try clear hx1
      try clear p2
      try clear c4
      try clear c4b0
      try clear c5
      try clear c5b0
      try clear c6
      try clear c6b0
      try clear c7
      try clear c7b0
      try clear c9
      try clear c11
      try clear c12
      try clear hcz10_0
      try clear hcz10_1
      try clear hcz13_0
      try clear hcz13_1
      try clear hcz14_0
      try clear hcz14_1
      try clear hfz10_0
      try clear hfz10_1
      try clear hfz13_0
      try clear hfz13_1
      try clear hfz14_0
      try clear hfz14_1
      try clear hx167_0
      try clear hx168_0
      try clear hx168_1
      try clear p167
      try clear p168
      try clear q167
      try clear q168
      obtain ⟨kq,x26_7,rfl,HA,HJ7,BK169,HB⟩:=hcut
      cases kq with
      | zero => exact absurd HA.out (by simp [spec_l1Record.j0])
      | succ kj7 =>
       have H:=HA.out
       clear HA
       simp only [spec_l1Record.j0] at H
       by_cases c15 : x26_7 = true
       ·subst c15
        have H1 : (some false) = some r:=by rw [if_pos rfl] at H;exact H
        clear H
        have H:=H1
        clear H1
        obtain rfl:=Option.some.inj H
        go_wp2
        go_ret
        exact ⟨by first | rfl | (simp [errW_none,errW_some] <;> rfl) | (simp [*,errW_none,errW_some] <;> rfl),by repeat (first | (with_reducible first | exact HB.out | apply below_alloc | apply pw_below_drewN | apply below_drew1 | refine below_set ?_ GE169.out) | exact HB.out)⟩
       ·replace c15:=Bool.eq_false_iff.mpr c15
        subst c15
        have H1 : (spec_l1Record.l0 kj7 l0 a1 a2 0 ((rd_T113 (rd_L4 l0 a1) a2).f0) ((rd_T113 (rd_L4 l0 a1) a2).f1)) = some r:=by rw [if_neg (show ¬ (false = true) by decide)] at H;exact H
        clear H
        have H:=H1
        clear H1
        have H':=Aside0.mk H
        clear H
        go_wp2
        go_loopg [8] kj7 (fun kq v8 w' => ∃ (x8_2 : Int),v8 = .int .i64 x8_2 ∧ Aside0 (spec_l1Record.l0 kq l0 a1 a2 x8_2 ((rd_T113 (rd_L4 l0 a1) a2).f0) ((rd_T113 (rd_L4 l0 a1) a2).f1) = some r) ∧ Aside0 (kq ≤ kj7) ∧ Aside0 (w'.heap[gb169]? = some (.cells #[.int .i64 ((rd_T113 (rd_L4 l0 a1) a2).f0),(.slice A168_1 ((rd_T113 (rd_L4 l0 a1) a2).f1).length c168_1)] 113 (0,0))) ∧ Aside0 (Below w.heap.size w w'))
        case atStart => exact ⟨(0),(by first | rfl | (simp;done) | (simp [*];done)),H',⟨Nat.le_refl _⟩,⟨by (with_reducible repeat (first | refine blk_drewN ?_ _ | refine blk_drew ?_ | refine blk_alloc ?_ _));exact BK169.out⟩,⟨by repeat (first | (with_reducible first | exact HB.out | apply below_alloc | apply pw_below_drewN | apply below_drew1 | refine below_set ?_ GE169.out) | exact HB.out)⟩⟩
        case round =>
         clear H'
         try clear c1
         try clear p1
         try clear q1
         try clear hx1
         try clear p2
         try clear c4
         try clear c4b0
         try clear c5
         try clear c5b0
         try clear c6
         try clear c6b0
         try clear c7
         try clear c7b0
         try clear c9
         try clear c11
         try clear c12
         try clear c15
         try clear hcz10_0
         try clear hcz10_1
         try clear hcz13_0
         try clear hcz13_1
         try clear hcz14_0
         try clear hcz14_1
         try clear hfz10_0
         try clear hfz10_1
         try clear hfz13_0
         try clear hfz13_1
         try clear hfz14_0
         try clear hfz14_1
         try clear hx167_0
         try clear hx168_0
         try clear hx168_1
         try clear p1
         try clear p167
         try clear p168
         try clear p2
         try clear q1
         try clear q167
         try clear q168
         obtain ⟨x8_2,rfl,HA,HK2,BK169,HB⟩:=hrel
         cases gk with
         | zero => exact absurd HA.out (by simp [spec_l1Record.l0])
         | succ k2 =>
          have H:=HA.out
          clear HA
          simp only [spec_l1Record.l0] at H
          by_cases c16 : x8_2 < (((rd_T113 (rd_L4 l0 a1) a2).f1).length : Int)
          ·rw [if_pos c16] at H
           have c16b0 : decide (x8_2 < (((rd_T113 (rd_L4 l0 a1) a2).f1).length : Int)) = true:=decide_eq_true c16
           clear c16
           by_cases c17 : 0 ≤ x8_2
           ·rw [if_pos c17] at H
            have c17b0 : decide (0 ≤ x8_2) = true:=decide_eq_true c17
            clear c17
            replace H:=Option.bind_eq_some_iff.mp H
            obtain ⟨t172,A180,H⟩:=H
            replace H : (if t172 = true then ((spec_l1Able.f k2 l0 (rdOf ByteArray.empty ((rd_T113 (rd_L4 l0 a1) a2).f1) x8_2)).bind fun t174 => ((spec_l1Can.f ((rd_T113 (rd_L4 l0 a1) a2).f0) 1).bind fun t175 => (if t175 = true then ((spec_l1Can.f t174 1).bind fun t176 => (if t176 = true then ((spec_l1Can.f ((rd_T113 (rd_L4 l0 a1) a2).f0) 2).bind fun t177 => (if t177 = true then ((spec_l1Can.f t174 2).bind fun t178 => (spec_l1Record.j2 k2 l0 a1 a2 x8_2 t174 (!t178) ((rd_T113 (rd_L4 l0 a1) a2).f0) ((rd_T113 (rd_L4 l0 a1) a2).f1))) else (spec_l1Record.j2 k2 l0 a1 a2 x8_2 t174 false ((rd_T113 (rd_L4 l0 a1) a2).f0) ((rd_T113 (rd_L4 l0 a1) a2).f1)))) else (spec_l1Record.j2 k2 l0 a1 a2 x8_2 t174 true ((rd_T113 (rd_L4 l0 a1) a2).f0) ((rd_T113 (rd_L4 l0 a1) a2).f1)))) else ((spec_l1Can.f ((rd_T113 (rd_L4 l0 a1) a2).f0) 2).bind fun t179 => (if t179 = true then ((spec_l1Can.f t174 2).bind fun t180 => (spec_l1Record.j2 k2 l0 a1 a2 x8_2 t174 (!t180) ((rd_T113 (rd_L4 l0 a1) a2).f0) ((rd_T113 (rd_L4 l0 a1) a2).f1))) else (spec_l1Record.j2 k2 l0 a1 a2 x8_2 t174 false ((rd_T113 (rd_L4 l0 a1) a2).f0) ((rd_T113 (rd_L4 l0 a1) a2).f1))))))) else (some false)) = some r:=H
            have A18:=Aside0.mk A180
            clear A180
            by_cases c19 : t172 = true
            ·subst c19
             have H1 : ((spec_l1Able.f k2 l0 (rdOf ByteArray.empty ((rd_T113 (rd_L4 l0 a1) a2).f1) x8_2)).bind fun t174 => ((spec_l1Can.f ((rd_T113 (rd_L4 l0 a1) a2).f0) 1).bind fun t175 => (if t175 = true then ((spec_l1Can.f t174 1).bind fun t176 => (if t176 = true then ((spec_l1Can.f ((rd_T113 (rd_L4 l0 a1) a2).f0) 2).bind fun t177 => (if t177 = true then ((spec_l1Can.f t174 2).bind fun t178 => (spec_l1Record.j2 k2 l0 a1 a2 x8_2 t174 (!t178) ((rd_T113 (rd_L4 l0 a1) a2).f0) ((rd_T113 (rd_L4 l0 a1) a2).f1))) else (spec_l1Record.j2 k2 l0 a1 a2 x8_2 t174 false ((rd_T113 (rd_L4 l0 a1) a2).f0) ((rd_T113 (rd_L4 l0 a1) a2).f1)))) else (spec_l1Record.j2 k2 l0 a1 a2 x8_2 t174 true ((rd_T113 (rd_L4 l0 a1) a2).f0) ((rd_T113 (rd_L4 l0 a1) a2).f1)))) else ((spec_l1Can.f ((rd_T113 (rd_L4 l0 a1) a2).f0) 2).bind fun t179 => (if t179 = true then ((spec_l1Can.f t174 2).bind fun t180 => (spec_l1Record.j2 k2 l0 a1 a2 x8_2 t174 (!t180) ((rd_T113 (rd_L4 l0 a1) a2).f0) ((rd_T113 (rd_L4 l0 a1) a2).f1))) else (spec_l1Record.j2 k2 l0 a1 a2 x8_2 t174 false ((rd_T113 (rd_L4 l0 a1) a2).f0) ((rd_T113 (rd_L4 l0 a1) a2).f1))))))) = some r:=by rw [if_pos rfl] at H;exact H
             clear H
             have H:=H1
             clear H1
             replace H:=Option.bind_eq_some_iff.mp H
             obtain ⟨t174,A200,H⟩:=H
             replace H : ((spec_l1Can.f ((rd_T113 (rd_L4 l0 a1) a2).f0) 1).bind fun t175 => (if t175 = true then ((spec_l1Can.f t174 1).bind fun t176 => (if t176 = true then ((spec_l1Can.f ((rd_T113 (rd_L4 l0 a1) a2).f0) 2).bind fun t177 => (if t177 = true then ((spec_l1Can.f t174 2).bind fun t178 => (spec_l1Record.j2 k2 l0 a1 a2 x8_2 t174 (!t178) ((rd_T113 (rd_L4 l0 a1) a2).f0) ((rd_T113 (rd_L4 l0 a1) a2).f1))) else (spec_l1Record.j2 k2 l0 a1 a2 x8_2 t174 false ((rd_T113 (rd_L4 l0 a1) a2).f0) ((rd_T113 (rd_L4 l0 a1) a2).f1)))) else (spec_l1Record.j2 k2 l0 a1 a2 x8_2 t174 true ((rd_T113 (rd_L4 l0 a1) a2).f0) ((rd_T113 (rd_L4 l0 a1) a2).f1)))) else ((spec_l1Can.f ((rd_T113 (rd_L4 l0 a1) a2).f0) 2).bind fun t179 => (if t179 = true then ((spec_l1Can.f t174 2).bind fun t180 => (spec_l1Record.j2 k2 l0 a1 a2 x8_2 t174 (!t180) ((rd_T113 (rd_L4 l0 a1) a2).f0) ((rd_T113 (rd_L4 l0 a1) a2).f1))) else (spec_l1Record.j2 k2 l0 a1 a2 x8_2 t174 false ((rd_T113 (rd_L4 l0 a1) a2).f0) ((rd_T113 (rd_L4 l0 a1) a2).f1)))))) = some r:=H
             have A20:=Aside0.mk A200
             clear A200
             have HC21:=Aside0.mk H
             clear H
             have hcz22_0 : wr.cell? ⟨gb169,0,none⟩ = some (.int .i64 ((rd_T113 (rd_L4 l0 a1) a2).f0)):=(blk_cell BK169.out 0).trans rfl
             have hcz22_1 : wr.cell? ⟨gb169,1,none⟩ = some (.slice A168_1 ((rd_T113 (rd_L4 l0 a1) a2).f1).length c168_1):=(blk_cell BK169.out 1).trans rfl
             have hfz22_0:=blk_frozen BK169.out 0
             have hfz22_1:=blk_frozen BK169.out 1
             have p171 : 0 ≤ (x8_2 : Int):=of_decide_eq_true (by first | (with_reducible assumption) | assumption)
             have q171 : x8_2 < (((rd_T113 (rd_L4 l0 a1) a2).f1).length : Int):=of_decide_eq_true (by first | (with_reducible assumption) | assumption)
             obtain ⟨ad171,e171,hx171_0⟩:=Kd.at_string HR168_1.out x8_2 p171 q171
             cases e171
             replace hx171_0:=(HB.out.cell (World.block_lt_of_cell? w _ hx171_0)).trans hx171_0
             replace p171:=eq_true p171
             replace q171:=eq_true q171
             go_upto_region 10 with (first | ((with_reducible refine gate_callee (f:=125) rfl ?_);refine goesL_ (some 42) rfl rfl Try.func125 (by kernel_rfl) rfl #[.slice (some ad167) l0.length c0,.int .i64 a1,.int .i64 a2,.string (rdOf ByteArray.empty ((rd_T113 (rd_L4 l0 a1) a2).f1) x8_2)] rfl (by (try simp only [List.map_toArray,List.map_cons,List.map_nil]);first | done | rfl | (simp only [List.length_drop,List.length_take];rfl)) ?_;(with_reducible refine (spec_l1Field.calls _ _ l0 a1 a2 (rdOf ByteArray.empty ((rd_T113 (rd_L4 l0 a1) a2).f1) x8_2) true _ ?side1 ?side2 A18.out).mono ?_);(case side1 => repeat (first | exact (Kd.C_below HR0.out HB.out) | (with_reducible refine Kd.C_alloc ?_ _) | (with_reducible refine Kd.C_drewN ?_ _) | (with_reducible refine Kd.C_drew ?_)));(case side2 => exact HC0.out);rintro e w' ⟨rfl,⟨nd,rfl⟩⟩;refine ⟨_,rfl,?_⟩;have p173 : 0 ≤ (x8_2 : Int):=of_decide_eq_true (by first | (with_reducible assumption) | assumption);have q173 : x8_2 < (((rd_T113 (rd_L4 l0 a1) a2).f1).length : Int):=of_decide_eq_true (by first | (with_reducible assumption) | assumption);obtain ⟨ad173,e173,hx173_0⟩:=Kd.at_string HR168_1.out x8_2 p173 q173;obtain rfl : ad171 = ad173:=(by injection e173);replace hx173_0:=(HB.out.cell (World.block_lt_of_cell? w _ hx173_0)).trans hx173_0;replace p173:=eq_true p173;replace q173:=eq_true q173) | ((with_reducible refine gate_callee (f:=101) rfl ?_);refine goesL_ (some 50) rfl rfl Try.func101 (by kernel_rfl) rfl #[.slice (some ad167) l0.length c0,.string (rdOf ByteArray.empty ((rd_T113 (rd_L4 l0 a1) a2).f1) x8_2)] rfl (by (try simp only [List.map_toArray,List.map_cons,List.map_nil]);first | done | rfl | (simp only [List.length_drop,List.length_take];rfl)) ?_;(with_reducible refine (spec_l1Able.calls k2 _ _ l0 (rdOf ByteArray.empty ((rd_T113 (rd_L4 l0 a1) a2).f1) x8_2) t174 _ ?side1 ?side2 A20.out).mono ?_);(case side1 => repeat (first | exact (Kd.C_below HR0.out (by repeat (first | (with_reducible first | exact HB.out | apply below_alloc | apply pw_below_drewN | apply below_drew1 | refine below_set ?_ GE169.out) | exact HB.out))) | (with_reducible refine Kd.C_alloc ?_ _) | (with_reducible refine Kd.C_drewN ?_ _) | (with_reducible refine Kd.C_drew ?_)));(case side2 => exact HC0.out);rintro e w' ⟨rfl,⟨nd,rfl⟩⟩;refine ⟨_,rfl,?_⟩))
             (try simp only [Act.put,List.setIfInBounds_toArray,List.set_cons_zero,List.set_cons_succ])
             go_cut [68] (fun v68 wc => ∃ (kq : Nat) (x68_20 : Bool),v68 = .bool x68_20 ∧ Aside0 (spec_l1Record.j2 kq l0 a1 a2 x8_2 t174 x68_20 ((rd_T113 (rd_L4 l0 a1) a2).f0) ((rd_T113 (rd_L4 l0 a1) a2).f1) = some r) ∧ Aside0 (kq ≤ k2) ∧ Aside0 (wc.heap[gb169]? = some (.cells #[.int .i64 ((rd_T113 (rd_L4 l0 a1) a2).f0),(.slice (some ad171) ((rd_T113 (rd_L4 l0 a1) a2).f1).length c168_1)] 113 (0,0))) ∧ Aside0 (Below w.heap.size w wc))
             case first =>
              have H:=HC21.out
              clear HC21
              replace H:=Option.bind_eq_some_iff.mp H
              obtain ⟨t175,A230,H⟩:=H
              replace H : (if t175 = true then ((spec_l1Can.f t174 1).bind fun t176 => (if t176 = true then ((spec_l1Can.f ((rd_T113 (rd_L4 l0 a1) a2).f0) 2).bind fun t177 => (if t177 = true then ((spec_l1Can.f t174 2).bind fun t178 => (spec_l1Record.j2 k2 l0 a1 a2 x8_2 t174 (!t178) ((rd_T113 (rd_L4 l0 a1) a2).f0) ((rd_T113 (rd_L4 l0 a1) a2).f1))) else (spec_l1Record.j2 k2 l0 a1 a2 x8_2 t174 false ((rd_T113 (rd_L4 l0 a1) a2).f0) ((rd_T113 (rd_L4 l0 a1) a2).f1)))) else (spec_l1Record.j2 k2 l0 a1 a2 x8_2 t174 true ((rd_T113 (rd_L4 l0 a1) a2).f0) ((rd_T113 (rd_L4 l0 a1) a2).f1)))) else ((spec_l1Can.f ((rd_T113 (rd_L4 l0 a1) a2).f0) 2).bind fun t179 => (if t179 = true then ((spec_l1Can.f t174 2).bind fun t180 => (spec_l1Record.j2 k2 l0 a1 a2 x8_2 t174 (!t180) ((rd_T113 (rd_L4 l0 a1) a2).f0) ((rd_T113 (rd_L4 l0 a1) a2).f1))) else (spec_l1Record.j2 k2 l0 a1 a2 x8_2 t174 false ((rd_T113 (rd_L4 l0 a1) a2).f0) ((rd_T113 (rd_L4 l0 a1) a2).f1))))) = some r:=H
              have A23:=Aside0.mk A230
              clear A230
              by_cases c24 : t175 = true
              ·subst c24
               have H1 : ((spec_l1Can.f t174 1).bind fun t176 => (if t176 = true then ((spec_l1Can.f ((rd_T113 (rd_L4 l0 a1) a2).f0) 2).bind fun t177 => (if t177 = true then ((spec_l1Can.f t174 2).bind fun t178 => (spec_l1Record.j2 k2 l0 a1 a2 x8_2 t174 (!t178) ((rd_T113 (rd_L4 l0 a1) a2).f0) ((rd_T113 (rd_L4 l0 a1) a2).f1))) else (spec_l1Record.j2 k2 l0 a1 a2 x8_2 t174 false ((rd_T113 (rd_L4 l0 a1) a2).f0) ((rd_T113 (rd_L4 l0 a1) a2).f1)))) else (spec_l1Record.j2 k2 l0 a1 a2 x8_2 t174 true ((rd_T113 (rd_L4 l0 a1) a2).f0) ((rd_T113 (rd_L4 l0 a1) a2).f1)))) = some r:=by rw [if_pos rfl] at H;exact H
               clear H
               have H:=H1
               clear H1
               replace H:=Option.bind_eq_some_iff.mp H
               obtain ⟨t176,A250,H⟩:=H
               replace H : (if t176 = true then ((spec_l1Can.f ((rd_T113 (rd_L4 l0 a1) a2).f0) 2).bind fun t177 => (if t177 = true then ((spec_l1Can.f t174 2).bind fun t178 => (spec_l1Record.j2 k2 l0 a1 a2 x8_2 t174 (!t178) ((rd_T113 (rd_L4 l0 a1) a2).f0) ((rd_T113 (rd_L4 l0 a1) a2).f1))) else (spec_l1Record.j2 k2 l0 a1 a2 x8_2 t174 false ((rd_T113 (rd_L4 l0 a1) a2).f0) ((rd_T113 (rd_L4 l0 a1) a2).f1)))) else (spec_l1Record.j2 k2 l0 a1 a2 x8_2 t174 true ((rd_T113 (rd_L4 l0 a1) a2).f0) ((rd_T113 (rd_L4 l0 a1) a2).f1))) = some r:=H
               have A25:=Aside0.mk A250
               clear A250
               by_cases c26 : t176 = true
               ·subst c26
                have H1 : ((spec_l1Can.f ((rd_T113 (rd_L4 l0 a1) a2).f0) 2).bind fun t177 => (if t177 = true then ((spec_l1Can.f t174 2).bind fun t178 => (spec_l1Record.j2 k2 l0 a1 a2 x8_2 t174 (!t178) ((rd_T113 (rd_L4 l0 a1) a2).f0) ((rd_T113 (rd_L4 l0 a1) a2).f1))) else (spec_l1Record.j2 k2 l0 a1 a2 x8_2 t174 false ((rd_T113 (rd_L4 l0 a1) a2).f0) ((rd_T113 (rd_L4 l0 a1) a2).f1)))) = some r:=by rw [if_pos rfl] at H;exact H
                clear H
                have H:=H1
                clear H1
                replace H:=Option.bind_eq_some_iff.mp H
                obtain ⟨t177,A270,H⟩:=H
                replace H : (if t177 = true then ((spec_l1Can.f t174 2).bind fun t178 => (spec_l1Record.j2 k2 l0 a1 a2 x8_2 t174 (!t178) ((rd_T113 (rd_L4 l0 a1) a2).f0) ((rd_T113 (rd_L4 l0 a1) a2).f1))) else (spec_l1Record.j2 k2 l0 a1 a2 x8_2 t174 false ((rd_T113 (rd_L4 l0 a1) a2).f0) ((rd_T113 (rd_L4 l0 a1) a2).f1))) = some r:=H
                have A27:=Aside0.mk A270
                clear A270
                by_cases c28 : t177 = true
                ·subst c28
                 have H1 : ((spec_l1Can.f t174 2).bind fun t178 => (spec_l1Record.j2 k2 l0 a1 a2 x8_2 t174 (!t178) ((rd_T113 (rd_L4 l0 a1) a2).f0) ((rd_T113 (rd_L4 l0 a1) a2).f1))) = some r:=by rw [if_pos rfl] at H;exact H
                 clear H
                 have H:=H1
                 clear H1
                 replace H:=Option.bind_eq_some_iff.mp H
                 obtain ⟨t178,A290,H⟩:=H
                 replace H : (spec_l1Record.j2 k2 l0 a1 a2 x8_2 t174 (!t178) ((rd_T113 (rd_L4 l0 a1) a2).f0) ((rd_T113 (rd_L4 l0 a1) a2).f1)) = some r:=H
                 have A29:=Aside0.mk A290
                 clear A290
                 have H':=Aside0.mk H
                 clear H
                 have hcz30_0 : wr.cell? ⟨gb169,0,none⟩ = some (.int .i64 ((rd_T113 (rd_L4 l0 a1) a2).f0)):=(blk_cell BK169.out 0).trans rfl
                 have hcz30_1 : wr.cell? ⟨gb169,1,none⟩ = some (.slice (some ad171) ((rd_T113 (rd_L4 l0 a1) a2).f1).length c168_1):=(blk_cell BK169.out 1).trans rfl
                 have hfz30_0:=blk_frozen BK169.out 0
                 have hfz30_1:=blk_frozen BK169.out 1
                 go_wp2_with (first | ((with_reducible refine gate_callee (f:=100) rfl ?_);refine goesL_ (some 53) rfl rfl Try.func100 (by kernel_rfl) rfl #[.int .i64 ((rd_T113 (rd_L4 l0 a1) a2).f0),.int .i64 1] rfl (by (try simp only [List.map_toArray,List.map_cons,List.map_nil]);first | done | rfl | (simp only [List.length_drop,List.length_take];rfl)) ?_;(with_reducible refine (spec_l1Can.calls ((rd_T113 (rd_L4 l0 a1) a2).f0) 1 true _ A23.out).mono ?_);rintro e w' ⟨rfl,⟨nd,rfl⟩⟩;refine ⟨_,rfl,?_⟩) | (go_at_call 100;(with_reducible refine (spec_l1Can.calls t174 1 true _ A25.out).mono ?_);rintro e w' ⟨rfl,⟨nd,rfl⟩⟩) | (go_at_call 100;(with_reducible refine (spec_l1Can.calls ((rd_T113 (rd_L4 l0 a1) a2).f0) 2 true _ A27.out).mono ?_);rintro e w' ⟨rfl,⟨nd,rfl⟩⟩) | (go_at_call 100;(with_reducible refine (spec_l1Can.calls t174 2 t178 _ A29.out).mono ?_);rintro e w' ⟨rfl,⟨nd,rfl⟩⟩))
                 go_meet
                 case rel => exact ⟨_,(!t178),(by first | rfl | (simp;done) | (simp [*];done)),H',⟨by have:=HJ7.out;have:=HK2.out;first | omega | exact Nat.le_refl _⟩,⟨by (with_reducible repeat (first | refine blk_drewN ?_ _ | refine blk_drew ?_ | refine blk_alloc ?_ _));exact BK169.out⟩,⟨by repeat (first | (with_reducible first | exact HB.out | apply below_alloc | apply pw_below_drewN | apply below_drew1 | refine below_set ?_ GE169.out) | exact HB.out)⟩⟩
                ·replace c28:=Bool.eq_false_iff.mpr c28
                 subst c28
                 have H1 : (spec_l1Record.j2 k2 l0 a1 a2 x8_2 t174 false ((rd_T113 (rd_L4 l0 a1) a2).f0) ((rd_T113 (rd_L4 l0 a1) a2).f1)) = some r:=by rw [if_neg (show ¬ (false = true) by decide)] at H;exact H
                 clear H
                 have H:=H1
                 clear H1
                 have H':=Aside0.mk H
                 clear H
                 have hcz31_0 : wr.cell? ⟨gb169,0,none⟩ = some (.int .i64 ((rd_T113 (rd_L4 l0 a1) a2).f0)):=(blk_cell BK169.out 0).trans rfl
                 have hcz31_1 : wr.cell? ⟨gb169,1,none⟩ = some (.slice (some ad171) ((rd_T113 (rd_L4 l0 a1) a2).f1).length c168_1):=(blk_cell BK169.out 1).trans rfl
                 have hfz31_0:=blk_frozen BK169.out 0
                 have hfz31_1:=blk_frozen BK169.out 1
                 go_wp2_with (first | ((with_reducible refine gate_callee (f:=100) rfl ?_);refine goesL_ (some 53) rfl rfl Try.func100 (by kernel_rfl) rfl #[.int .i64 ((rd_T113 (rd_L4 l0 a1) a2).f0),.int .i64 1] rfl (by (try simp only [List.map_toArray,List.map_cons,List.map_nil]);first | done | rfl | (simp only [List.length_drop,List.length_take];rfl)) ?_;(with_reducible refine (spec_l1Can.calls ((rd_T113 (rd_L4 l0 a1) a2).f0) 1 true _ A23.out).mono ?_);rintro e w' ⟨rfl,⟨nd,rfl⟩⟩;refine ⟨_,rfl,?_⟩) | (go_at_call 100;(with_reducible refine (spec_l1Can.calls t174 1 true _ A25.out).mono ?_);rintro e w' ⟨rfl,⟨nd,rfl⟩⟩) | (go_at_call 100;(with_reducible refine (spec_l1Can.calls ((rd_T113 (rd_L4 l0 a1) a2).f0) 2 false _ A27.out).mono ?_);rintro e w' ⟨rfl,⟨nd,rfl⟩⟩))
                 go_meet
                 case rel => exact ⟨_,(false),(by first | rfl | (simp;done) | (simp [*];done)),H',⟨by have:=HJ7.out;have:=HK2.out;first | omega | exact Nat.le_refl _⟩,⟨by (with_reducible repeat (first | refine blk_drewN ?_ _ | refine blk_drew ?_ | refine blk_alloc ?_ _));exact BK169.out⟩,⟨by repeat (first | (with_reducible first | exact HB.out | apply below_alloc | apply pw_below_drewN | apply below_drew1 | refine below_set ?_ GE169.out) | exact HB.out)⟩⟩
               ·replace c26:=Bool.eq_false_iff.mpr c26
                subst c26
                have H1 : (spec_l1Record.j2 k2 l0 a1 a2 x8_2 t174 true ((rd_T113 (rd_L4 l0 a1) a2).f0) ((rd_T113 (rd_L4 l0 a1) a2).f1)) = some r:=by rw [if_neg (show ¬ (false = true) by decide)] at H;exact H
                clear H
                have H:=H1
                clear H1
                have H':=Aside0.mk H
                clear H
                have hcz32_0 : wr.cell? ⟨gb169,0,none⟩ = some (.int .i64 ((rd_T113 (rd_L4 l0 a1) a2).f0)):=(blk_cell BK169.out 0).trans rfl
                have hcz32_1 : wr.cell? ⟨gb169,1,none⟩ = some (.slice (some ad171) ((rd_T113 (rd_L4 l0 a1) a2).f1).length c168_1):=(blk_cell BK169.out 1).trans rfl
                have hfz32_0:=blk_frozen BK169.out 0
                have hfz32_1:=blk_frozen BK169.out 1
                go_wp2_with (first | ((with_reducible refine gate_callee (f:=100) rfl ?_);refine goesL_ (some 53) rfl rfl Try.func100 (by kernel_rfl) rfl #[.int .i64 ((rd_T113 (rd_L4 l0 a1) a2).f0),.int .i64 1] rfl (by (try simp only [List.map_toArray,List.map_cons,List.map_nil]);first | done | rfl | (simp only [List.length_drop,List.length_take];rfl)) ?_;(with_reducible refine (spec_l1Can.calls ((rd_T113 (rd_L4 l0 a1) a2).f0) 1 true _ A23.out).mono ?_);rintro e w' ⟨rfl,⟨nd,rfl⟩⟩;refine ⟨_,rfl,?_⟩) | (go_at_call 100;(with_reducible refine (spec_l1Can.calls t174 1 false _ A25.out).mono ?_);rintro e w' ⟨rfl,⟨nd,rfl⟩⟩))
                go_meet
                case rel => exact ⟨_,(true),(by first | rfl | (simp;done) | (simp [*];done)),H',⟨by have:=HJ7.out;have:=HK2.out;first | omega | exact Nat.le_refl _⟩,⟨by (with_reducible repeat (first | refine blk_drewN ?_ _ | refine blk_drew ?_ | refine blk_alloc ?_ _));exact BK169.out⟩,⟨by repeat (first | (with_reducible first | exact HB.out | apply below_alloc | apply pw_below_drewN | apply below_drew1 | refine below_set ?_ GE169.out) | exact HB.out)⟩⟩
              ·replace c24:=Bool.eq_false_iff.mpr c24
               subst c24
               have H1 : ((spec_l1Can.f ((rd_T113 (rd_L4 l0 a1) a2).f0) 2).bind fun t179 => (if t179 = true then ((spec_l1Can.f t174 2).bind fun t180 => (spec_l1Record.j2 k2 l0 a1 a2 x8_2 t174 (!t180) ((rd_T113 (rd_L4 l0 a1) a2).f0) ((rd_T113 (rd_L4 l0 a1) a2).f1))) else (spec_l1Record.j2 k2 l0 a1 a2 x8_2 t174 false ((rd_T113 (rd_L4 l0 a1) a2).f0) ((rd_T113 (rd_L4 l0 a1) a2).f1)))) = some r:=by rw [if_neg (show ¬ (false = true) by decide)] at H;exact H
               clear H
               have H:=H1
               clear H1
               replace H:=Option.bind_eq_some_iff.mp H
               obtain ⟨t179,A330,H⟩:=H
               replace H : (if t179 = true then ((spec_l1Can.f t174 2).bind fun t180 => (spec_l1Record.j2 k2 l0 a1 a2 x8_2 t174 (!t180) ((rd_T113 (rd_L4 l0 a1) a2).f0) ((rd_T113 (rd_L4 l0 a1) a2).f1))) else (spec_l1Record.j2 k2 l0 a1 a2 x8_2 t174 false ((rd_T113 (rd_L4 l0 a1) a2).f0) ((rd_T113 (rd_L4 l0 a1) a2).f1))) = some r:=H
               have A33:=Aside0.mk A330
               clear A330
               by_cases c34 : t179 = true
               ·subst c34
                have H1 : ((spec_l1Can.f t174 2).bind fun t180 => (spec_l1Record.j2 k2 l0 a1 a2 x8_2 t174 (!t180) ((rd_T113 (rd_L4 l0 a1) a2).f0) ((rd_T113 (rd_L4 l0 a1) a2).f1))) = some r:=by rw [if_pos rfl] at H;exact H
                clear H
                have H:=H1
                clear H1
                replace H:=Option.bind_eq_some_iff.mp H
                obtain ⟨t180,A350,H⟩:=H
                replace H : (spec_l1Record.j2 k2 l0 a1 a2 x8_2 t174 (!t180) ((rd_T113 (rd_L4 l0 a1) a2).f0) ((rd_T113 (rd_L4 l0 a1) a2).f1)) = some r:=H
                have A35:=Aside0.mk A350
                clear A350
                have H':=Aside0.mk H
                clear H
                have hcz36_0 : wr.cell? ⟨gb169,0,none⟩ = some (.int .i64 ((rd_T113 (rd_L4 l0 a1) a2).f0)):=(blk_cell BK169.out 0).trans rfl
                have hcz36_1 : wr.cell? ⟨gb169,1,none⟩ = some (.slice (some ad171) ((rd_T113 (rd_L4 l0 a1) a2).f1).length c168_1):=(blk_cell BK169.out 1).trans rfl
                have hfz36_0:=blk_frozen BK169.out 0
                have hfz36_1:=blk_frozen BK169.out 1
                go_wp2_with (first | ((with_reducible refine gate_callee (f:=100) rfl ?_);refine goesL_ (some 53) rfl rfl Try.func100 (by kernel_rfl) rfl #[.int .i64 ((rd_T113 (rd_L4 l0 a1) a2).f0),.int .i64 1] rfl (by (try simp only [List.map_toArray,List.map_cons,List.map_nil]);first | done | rfl | (simp only [List.length_drop,List.length_take];rfl)) ?_;(with_reducible refine (spec_l1Can.calls ((rd_T113 (rd_L4 l0 a1) a2).f0) 1 false _ A23.out).mono ?_);rintro e w' ⟨rfl,⟨nd,rfl⟩⟩;refine ⟨_,rfl,?_⟩) | (go_at_call 100;(with_reducible refine (spec_l1Can.calls ((rd_T113 (rd_L4 l0 a1) a2).f0) 2 true _ A33.out).mono ?_);rintro e w' ⟨rfl,⟨nd,rfl⟩⟩) | (go_at_call 100;(with_reducible refine (spec_l1Can.calls t174 2 t180 _ A35.out).mono ?_);rintro e w' ⟨rfl,⟨nd,rfl⟩⟩))
                go_meet
                case rel => exact ⟨_,(!t180),(by first | rfl | (simp;done) | (simp [*];done)),H',⟨by have:=HJ7.out;have:=HK2.out;first | omega | exact Nat.le_refl _⟩,⟨by (with_reducible repeat (first | refine blk_drewN ?_ _ | refine blk_drew ?_ | refine blk_alloc ?_ _));exact BK169.out⟩,⟨by repeat (first | (with_reducible first | exact HB.out | apply below_alloc | apply pw_below_drewN | apply below_drew1 | refine below_set ?_ GE169.out) | exact HB.out)⟩⟩
               ·replace c34:=Bool.eq_false_iff.mpr c34
                subst c34
                have H1 : (spec_l1Record.j2 k2 l0 a1 a2 x8_2 t174 false ((rd_T113 (rd_L4 l0 a1) a2).f0) ((rd_T113 (rd_L4 l0 a1) a2).f1)) = some r:=by rw [if_neg (show ¬ (false = true) by decide)] at H;exact H
                clear H
                have H:=H1
                clear H1
                have H':=Aside0.mk H
                clear H
                have hcz37_0 : wr.cell? ⟨gb169,0,none⟩ = some (.int .i64 ((rd_T113 (rd_L4 l0 a1) a2).f0)):=(blk_cell BK169.out 0).trans rfl
                have hcz37_1 : wr.cell? ⟨gb169,1,none⟩ = some (.slice (some ad171) ((rd_T113 (rd_L4 l0 a1) a2).f1).length c168_1):=(blk_cell BK169.out 1).trans rfl
                have hfz37_0:=blk_frozen BK169.out 0
                have hfz37_1:=blk_frozen BK169.out 1
                go_wp2_with (first | ((with_reducible refine gate_callee (f:=100) rfl ?_);refine goesL_ (some 53) rfl rfl Try.func100 (by kernel_rfl) rfl #[.int .i64 ((rd_T113 (rd_L4 l0 a1) a2).f0),.int .i64 1] rfl (by (try simp only [List.map_toArray,List.map_cons,List.map_nil]);first | done | rfl | (simp only [List.length_drop,List.length_take];rfl)) ?_;(with_reducible refine (spec_l1Can.calls ((rd_T113 (rd_L4 l0 a1) a2).f0) 1 false _ A23.out).mono ?_);rintro e w' ⟨rfl,⟨nd,rfl⟩⟩;refine ⟨_,rfl,?_⟩) | (go_at_call 100;(with_reducible refine (spec_l1Can.calls ((rd_T113 (rd_L4 l0 a1) a2).f0) 2 false _ A33.out).mono ?_);rintro e w' ⟨rfl,⟨nd,rfl⟩⟩))
                go_meet
                case rel => exact ⟨_,(false),(by first | rfl | (simp;done) | (simp [*];done)),H',⟨by have:=HJ7.out;have:=HK2.out;first | omega | exact Nat.le_refl _⟩,⟨by (with_reducible repeat (first | refine blk_drewN ?_ _ | refine blk_drew ?_ | refine blk_alloc ?_ _));exact BK169.out⟩,⟨by repeat (first | (with_reducible first | exact HB.out | apply below_alloc | apply pw_below_drewN | apply below_drew1 | refine below_set ?_ GE169.out) | exact HB.out)⟩⟩
             case rest =>
              clear HC21
              try clear c1
              try clear p1
              try clear q1
              try clear hx1
              try clear c2
              try clear p2
              try clear c3
              try clear c4
              try clear c4b0
              try clear c5
              try clear c5b0
              try clear c6
              try clear c6b0
              try clear c7
              try clear c7b0
              try clear c9
              try clear c10
              try clear c11
              try clear c12
              try clear c15
              try clear c16
              try clear c16b0
              try clear p16
              try clear q16
              try clear hx16
              try clear c17
              try clear c17b0
              try clear p17
              try clear q17
              try clear hx17
              try clear c19
              try clear c24
              try clear c26
              try clear c28
              try clear c34
              try clear hcz10_0
              try clear hcz10_1
              try clear hcz13_0
              try clear hcz13_1
              try clear hcz14_0
              try clear hcz14_1
              try clear hcz22_0
              try clear hcz22_1
              try clear hcz30_0
              try clear hcz30_1
              try clear hcz31_0
              try clear hcz31_1
              try clear hcz32_0
              try clear hcz32_1
              try clear hcz36_0
              try clear hcz36_1
              try clear hcz37_0
              try clear hcz37_1
              try clear hfz10_0
              try clear hfz10_1
              try clear hfz13_0
              try clear hfz13_1
              try clear hfz14_0
              try clear hfz14_1
              try clear hfz22_0
              try clear hfz22_1
              try clear hfz30_0
              try clear hfz30_1
              try clear hfz31_0
              try clear hfz31_1
              try clear hfz32_0
              try clear hfz32_1
              try clear hfz36_0
              try clear hfz36_1
              try clear hfz37_0
              try clear hfz37_1
              try clear hx167_0
              try clear hx168_0
              try clear hx168_1
              try clear hx171_0
              try clear hx173_0
              try clear p1
              try clear p167
              try clear p168
              try clear p171
              try clear p173
              try clear p2
              try clear q1
              try clear q167
              try clear q168
              try clear q171
              try clear q173
              obtain ⟨kq,x68_20,rfl,HA,HJ20,BK169,HB⟩:=hcut
              cases kq with
              | zero => exact absurd HA.out (by simp [spec_l1Record.j2])
              | succ kj20 =>
               have H:=HA.out
               clear HA
               simp only [spec_l1Record.j2] at H
               by_cases c38 : x68_20 = true
               ·subst c38
                have H1 : (some false) = some r:=by rw [if_pos rfl] at H;exact H
                clear H
                have H:=H1
                clear H1
                obtain rfl:=Option.some.inj H
                go_wp2
                go_ret
                exact ⟨by first | rfl | (simp [errW_none,errW_some] <;> rfl) | (simp [*,errW_none,errW_some] <;> rfl),by repeat (first | (with_reducible first | exact HB.out | apply below_alloc | apply pw_below_drewN | apply below_drew1 | refine below_set ?_ GE169.out) | exact HB.out)⟩
               ·replace c38:=Bool.eq_false_iff.mpr c38
                subst c38
                have H1 : (if ((rd_T113 (rd_L4 l0 a1) a2).f0) ≥ 4 then ((spec_l1Can.f t174 4).bind fun t181 => (if t181 = true then (spec_l1Record.l0 kj20 l0 a1 a2 (wrap64 (x8_2 + 1)) ((rd_T113 (rd_L4 l0 a1) a2).f0) ((rd_T113 (rd_L4 l0 a1) a2).f1)) else (some false))) else (spec_l1Record.l0 kj20 l0 a1 a2 (wrap64 (x8_2 + 1)) ((rd_T113 (rd_L4 l0 a1) a2).f0) ((rd_T113 (rd_L4 l0 a1) a2).f1))) = some r:=by rw [if_neg (show ¬ (false = true) by decide)] at H;exact H
                clear H
                have H:=H1
                clear H1
                by_cases c39 : ((rd_T113 (rd_L4 l0 a1) a2).f0) ≥ 4
                ·rw [if_pos c39] at H
                 have c39b0 : decide (4 ≤ ((rd_T113 (rd_L4 l0 a1) a2).f0)) = true:=decide_eq_true c39
                 clear c39
                 replace H:=Option.bind_eq_some_iff.mp H
                 obtain ⟨t181,A400,H⟩:=H
                 replace H : (if t181 = true then (spec_l1Record.l0 kj20 l0 a1 a2 (wrap64 (x8_2 + 1)) ((rd_T113 (rd_L4 l0 a1) a2).f0) ((rd_T113 (rd_L4 l0 a1) a2).f1)) else (some false)) = some r:=H
                 have A40:=Aside0.mk A400
                 clear A400
                 by_cases c41 : t181 = true
                 ·subst c41
                  have H1 : (spec_l1Record.l0 kj20 l0 a1 a2 (wrap64 (x8_2 + 1)) ((rd_T113 (rd_L4 l0 a1) a2).f0) ((rd_T113 (rd_L4 l0 a1) a2).f1)) = some r:=by rw [if_pos rfl] at H;exact H
                  clear H
                  have H:=H1
                  clear H1
                  have H':=Aside0.mk H
                  clear H
                  have hcz42_0 : wc.cell? ⟨gb169,0,none⟩ = some (.int .i64 ((rd_T113 (rd_L4 l0 a1) a2).f0)):=(blk_cell BK169.out 0).trans rfl
                  have hcz42_1 : wc.cell? ⟨gb169,1,none⟩ = some (.slice (some ad171) ((rd_T113 (rd_L4 l0 a1) a2).f1).length c168_1):=(blk_cell BK169.out 1).trans rfl
                  have hfz42_0:=blk_frozen BK169.out 0
                  have hfz42_1:=blk_frozen BK169.out 1
                  go_wp2_with (first | (go_at_call 100;(with_reducible refine (spec_l1Can.calls t174 4 true _ A40.out).mono ?_);rintro e w' ⟨rfl,⟨nd,rfl⟩⟩))
                  go_roundg kj20
                  case measure => have:=HJ7.out;have:=HK2.out;have:=HJ20.out;omega
                  case rel => exact ⟨(wrap64 (x8_2 + 1)),(by first | rfl | (simp;done) | (simp [*];done)),H',⟨by have:=HJ7.out;have:=HK2.out;have:=HJ20.out;omega⟩,⟨by (with_reducible repeat (first | refine blk_drewN ?_ _ | refine blk_drew ?_ | refine blk_alloc ?_ _));exact BK169.out⟩,⟨by repeat (first | (with_reducible first | exact HB.out | apply below_alloc | apply pw_below_drewN | apply below_drew1 | refine below_set ?_ GE169.out) | exact HB.out)⟩⟩
                 ·replace c41:=Bool.eq_false_iff.mpr c41
                  subst c41
                  have H1 : (some false) = some r:=by rw [if_neg (show ¬ (false = true) by decide)] at H;exact H
                  clear H
                  have H:=H1
                  clear H1
                  obtain rfl:=Option.some.inj H
                  have hcz43_0 : wc.cell? ⟨gb169,0,none⟩ = some (.int .i64 ((rd_T113 (rd_L4 l0 a1) a2).f0)):=(blk_cell BK169.out 0).trans rfl
                  have hcz43_1 : wc.cell? ⟨gb169,1,none⟩ = some (.slice (some ad171) ((rd_T113 (rd_L4 l0 a1) a2).f1).length c168_1):=(blk_cell BK169.out 1).trans rfl
                  have hfz43_0:=blk_frozen BK169.out 0
                  have hfz43_1:=blk_frozen BK169.out 1
                  go_wp2_with (first | (go_at_call 100;(with_reducible refine (spec_l1Can.calls t174 4 false _ A40.out).mono ?_);rintro e w' ⟨rfl,⟨nd,rfl⟩⟩))
                  go_ret
                  exact ⟨by first | rfl | (simp [errW_none,errW_some] <;> rfl) | (simp [*,errW_none,errW_some] <;> rfl),by repeat (first | (with_reducible first | exact HB.out | apply below_alloc | apply pw_below_drewN | apply below_drew1 | refine below_set ?_ GE169.out) | exact HB.out)⟩
                ·rw [if_neg c39] at H
                 have c39b0 : decide (4 ≤ ((rd_T113 (rd_L4 l0 a1) a2).f0)) = false:=decide_eq_false c39
                 clear c39
                 have H':=Aside0.mk H
                 clear H
                 have hcz44_0 : wc.cell? ⟨gb169,0,none⟩ = some (.int .i64 ((rd_T113 (rd_L4 l0 a1) a2).f0)):=(blk_cell BK169.out 0).trans rfl
                 have hcz44_1 : wc.cell? ⟨gb169,1,none⟩ = some (.slice (some ad171) ((rd_T113 (rd_L4 l0 a1) a2).f1).length c168_1):=(blk_cell BK169.out 1).trans rfl
                 have hfz44_0:=blk_frozen BK169.out 0
                 have hfz44_1:=blk_frozen BK169.out 1
                 go_wp2
                 go_roundg kj20
                 case measure => have:=HJ7.out;have:=HK2.out;have:=HJ20.out;omega
                 case rel => exact ⟨(wrap64 (x8_2 + 1)),(by first | rfl | (simp;done) | (simp [*];done)),H',⟨by have:=HJ7.out;have:=HK2.out;have:=HJ20.out;omega⟩,⟨by (with_reducible repeat (first | refine blk_drewN ?_ _ | refine blk_drew ?_ | refine blk_alloc ?_ _));exact BK169.out⟩,⟨by repeat (first | (with_reducible first | exact HB.out | apply below_alloc | apply pw_below_drewN | apply below_drew1 | refine below_set ?_ GE169.out) | exact HB.out)⟩⟩
            ·replace c19:=Bool.eq_false_iff.mpr c19
             subst c19
             have H1 : (some false) = some r:=by rw [if_neg (show ¬ (false = true) by decide)] at H;exact H
             clear H
             have H:=H1
             clear H1
             obtain rfl:=Option.some.inj H
             have hcz45_0 : wr.cell? ⟨gb169,0,none⟩ = some (.int .i64 ((rd_T113 (rd_L4 l0 a1) a2).f0)):=(blk_cell BK169.out 0).trans rfl
             have hcz45_1 : wr.cell? ⟨gb169,1,none⟩ = some (.slice A168_1 ((rd_T113 (rd_L4 l0 a1) a2).f1).length c168_1):=(blk_cell BK169.out 1).trans rfl
             have hfz45_0:=blk_frozen BK169.out 0
             have hfz45_1:=blk_frozen BK169.out 1
             have p171 : 0 ≤ (x8_2 : Int):=of_decide_eq_true (by first | (with_reducible assumption) | assumption)
             have q171 : x8_2 < (((rd_T113 (rd_L4 l0 a1) a2).f1).length : Int):=of_decide_eq_true (by first | (with_reducible assumption) | assumption)
             obtain ⟨ad171,e171,hx171_0⟩:=Kd.at_string HR168_1.out x8_2 p171 q171
             cases e171
             replace hx171_0:=(HB.out.cell (World.block_lt_of_cell? w _ hx171_0)).trans hx171_0
             replace p171:=eq_true p171
             replace q171:=eq_true q171
             go_wp2_with (first | ((with_reducible refine gate_callee (f:=125) rfl ?_);refine goesL_ (some 42) rfl rfl Try.func125 (by kernel_rfl) rfl #[.slice (some ad167) l0.length c0,.int .i64 a1,.int .i64 a2,.string (rdOf ByteArray.empty ((rd_T113 (rd_L4 l0 a1) a2).f1) x8_2)] rfl (by (try simp only [List.map_toArray,List.map_cons,List.map_nil]);first | done | rfl | (simp only [List.length_drop,List.length_take];rfl)) ?_;(with_reducible refine (spec_l1Field.calls _ _ l0 a1 a2 (rdOf ByteArray.empty ((rd_T113 (rd_L4 l0 a1) a2).f1) x8_2) false _ ?side1 ?side2 A18.out).mono ?_);(case side1 => repeat (first | exact (Kd.C_below HR0.out HB.out) | (with_reducible refine Kd.C_alloc ?_ _) | (with_reducible refine Kd.C_drewN ?_ _) | (with_reducible refine Kd.C_drew ?_)));(case side2 => exact HC0.out);rintro e w' ⟨rfl,⟨nd,rfl⟩⟩;refine ⟨_,rfl,?_⟩))
             go_ret
             exact ⟨by first | rfl | (simp [errW_none,errW_some] <;> rfl) | (simp [*,errW_none,errW_some] <;> rfl),by repeat (first | (with_reducible first | exact HB.out | apply below_alloc | apply pw_below_drewN | apply below_drew1 | refine below_set ?_ GE169.out) | exact HB.out)⟩
           ·rw [if_neg c17] at H
            exact absurd H (by simp)
          ·rw [if_neg c16] at H
           have c16b0 : decide (x8_2 < (((rd_T113 (rd_L4 l0 a1) a2).f1).length : Int)) = false:=decide_eq_false c16
           clear c16
           obtain rfl:=Option.some.inj H
           have hcz46_0 : wr.cell? ⟨gb169,0,none⟩ = some (.int .i64 ((rd_T113 (rd_L4 l0 a1) a2).f0)):=(blk_cell BK169.out 0).trans rfl
           have hcz46_1 : wr.cell? ⟨gb169,1,none⟩ = some (.slice A168_1 ((rd_T113 (rd_L4 l0 a1) a2).f1).length c168_1):=(blk_cell BK169.out 1).trans rfl
           have hfz46_0:=blk_frozen BK169.out 0
           have hfz46_1:=blk_frozen BK169.out 1
           go_wp2
           go_ret
           exact ⟨by first | rfl | (simp [errW_none,errW_some] <;> rfl) | (simp [*,errW_none,errW_some] <;> rfl),by repeat (first | (with_reducible first | exact HB.out | apply below_alloc | apply pw_below_drewN | apply below_drew1 | refine below_set ?_ GE169.out) | exact HB.out)⟩
    ·rw [if_neg c7] at H
     exact absurd H (by simp)
   ·rw [if_neg c6] at H
    exact absurd H (by simp)
  ·rw [if_neg c5] at H
   exact absurd H (by simp)
 ·rw [if_neg c4] at H
  exact absurd H (by simp)

end Go.Proofs.Ytdgmlakgnbmbbaa.OFnExactValueSize
