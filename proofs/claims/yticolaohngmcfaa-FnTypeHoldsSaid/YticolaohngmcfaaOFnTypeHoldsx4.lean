-- Laid by a program of this session (wip/myprint.py): the kit's print of the functions, contracts of our own among them.
import Derived.Test.YticolaohngmcfaaOFnTypeHoldsx0
import Derived.Test.YticolaohngmcfaaOFnTypeHoldsx3
namespace Go.Proofs.Yticolaohngmcfaa.OFnTypeHolds
open Go.RowKit Go.Proofs.YticolaohngmcfaaW.PrintWords Go.Proofs.YticolaohngmcfaaW.PrintLast Go.Proofs.YticolaohngmcfaaW.PrintMore
attribute [local go_sem] max2_int min2_int max_two min_two max_three min_three max_four min_four   -- for this text's walks alone
set_option linter.unusedVariables false
set_option linter.unusedSimpArgs false

/-! ### spec_l1Field: function 63 -/
def spec_l1Field.f (l0 : List (List (S53))) (a1 : Int) (a2 : Int) (a3 : ByteArray) : Option (Bool) := (spec_l1Kind.f a3).bind fun bt151 => (if bt151.2.2 = true then ((spec_l1Has.f l0 bt151.1 bt151.2.1).bind fun t154 => (if t154 = true then (if bt151.1 < a1 then (some true) else (if bt151.1 = a1 then (some (decide (bt151.2.1 < a2))) else (some false))) else (some false))) else ((spec_l1Base.f a3).bind fun t155 => (some t155)))
set_option maxHeartbeats 8000000 in
set_option maxRecDepth 100000 in
theorem spec_l1Field.calls (A0 : Option Addr) (c0 : Nat) (l0 : List (List (S53))) (a1 : Int) (a2 : Int) (a3 : ByteArray) (r : Bool) (w : World) (hr0 : Kd.C (Kd.slice 53 k53) w A0 l0.length l0) (hc0 : l0.length ≤ c0) (h : spec_l1Field.f l0 a1 a2 a3 = some r) :
  Calls Try.prog 63 #[.slice A0 l0.length c0, .int .i64 a1, .int .i64 a2, .string a3] w fun e w' => e = .returned (.bool r) ∧ Drawn0 w w' := by
 have HR0 := Aside0.mk hr0
 have HC0 := Aside0.mk hc0
 clear hr0 hc0
 have H : ((spec_l1Kind.f a3).bind fun bt151 => (if bt151.2.2 = true then ((spec_l1Has.f l0 bt151.1 bt151.2.1).bind fun t154 => (if t154 = true then (if bt151.1 < a1 then (some true) else (if bt151.1 = a1 then (some (decide (bt151.2.1 < a2))) else (some false))) else (some false))) else ((spec_l1Base.f a3).bind fun t155 => (some t155)))) = some r := h
 clear h
 replace H := Option.bind_eq_some_iff.mp H
 obtain ⟨⟨t151, t152, t153⟩, A50, H⟩ := H
 replace H : (if t153 = true then ((spec_l1Has.f l0 t151 t152).bind fun t154 => (if t154 = true then (if t151 < a1 then (some true) else (if t151 = a1 then (some (decide (t152 < a2))) else (some false))) else (some false))) else ((spec_l1Base.f a3).bind fun t155 => (some t155))) = some r := H
 have A5 := Aside0.mk A50
 clear A50
 by_cases c6 : t153 = true
 ·subst c6
  have H1 : ((spec_l1Has.f l0 t151 t152).bind fun t154 => (if t154 = true then (if t151 < a1 then (some true) else (if t151 = a1 then (some (decide (t152 < a2))) else (some false))) else (some false))) = some r := by rw [if_pos rfl] at H; exact H
  clear H
  have H := H1
  clear H1
  replace H := Option.bind_eq_some_iff.mp H
  obtain ⟨t154, A70, H⟩ := H
  replace H : (if t154 = true then (if t151 < a1 then (some true) else (if t151 = a1 then (some (decide (t152 < a2))) else (some false))) else (some false)) = some r := H
  have A7 := Aside0.mk A70
  clear A70
  by_cases c8 : t154 = true
  ·subst c8
   have H1 : (if t151 < a1 then (some true) else (if t151 = a1 then (some (decide (t152 < a2))) else (some false))) = some r := by rw [if_pos rfl] at H; exact H
   clear H
   have H := H1
   clear H1
   by_cases c9 : t151 < a1
   ·rw [if_pos c9] at H
    have c9b0 : decide (t151 < a1) = true := decide_eq_true c9
    clear c9
    obtain rfl := Option.some.inj H
    go_enter Try.func63, Try.ntmps63
    go_wp2_with (first | ((with_reducible refine gate_callee (f := 57) rfl ?_); refine goesL_ (some 14) rfl rfl Try.func57 (by kernel_rfl) rfl #[.string a3] rfl (by (try simp only [List.map_toArray, List.map_cons, List.map_nil]); first | done | rfl | (simp only [List.length_drop, List.length_take]; rfl)) ?_; (with_reducible refine (spec_l1Kind.calls a3 t151 t152 true _ A5.out).mono ?_); rintro e w' ⟨rfl, ⟨nd, rfl⟩⟩; refine ⟨_, rfl, ?_⟩) | ((with_reducible refine gate_callee (f := 71) rfl ?_); refine goesL_ (some 25) rfl rfl Try.func71 (by kernel_rfl) rfl #[.slice A0 l0.length c0, .int .i64 t151, .int .i64 t152] rfl (by (try simp only [List.map_toArray, List.map_cons, List.map_nil]); first | done | rfl | (simp only [List.length_drop, List.length_take]; rfl)) ?_; (with_reducible refine (spec_l1Has.calls _ _ l0 t151 t152 true _ ?side1 ?side2 A7.out).mono ?_); (case side1 => repeat (first | exact HR0.out | (with_reducible refine Kd.C_alloc ?_ _) | (with_reducible refine Kd.C_drewN ?_ _) | (with_reducible refine Kd.C_drew ?_))); (case side2 => exact HC0.out); rintro e w' ⟨rfl, ⟨nd, rfl⟩⟩; refine ⟨_, rfl, ?_⟩))
    go_ret
    exact ⟨by first | rfl | (simp; done) | (simp [*]; done), by repeat (first | exact Drawn0.refl _ | apply Drawn0.step)⟩
   ·rw [if_neg c9] at H
    have c9b0 : decide (t151 < a1) = false := decide_eq_false c9
    clear c9
    by_cases c10 : t151 = a1
    ·rw [if_pos c10] at H
     have c10b0 : (t151 == a1) = true := beq_iff_eq.mpr c10
     have c10b1 : (t151 != a1) = false := bne_eq_false_iff_eq.mpr c10
     clear c10
     obtain rfl := Option.some.inj H
     go_enter Try.func63, Try.ntmps63
     go_wp2_with (first | ((with_reducible refine gate_callee (f := 57) rfl ?_); refine goesL_ (some 14) rfl rfl Try.func57 (by kernel_rfl) rfl #[.string a3] rfl (by (try simp only [List.map_toArray, List.map_cons, List.map_nil]); first | done | rfl | (simp only [List.length_drop, List.length_take]; rfl)) ?_; (with_reducible refine (spec_l1Kind.calls a3 t151 t152 true _ A5.out).mono ?_); rintro e w' ⟨rfl, ⟨nd, rfl⟩⟩; refine ⟨_, rfl, ?_⟩) | ((with_reducible refine gate_callee (f := 71) rfl ?_); refine goesL_ (some 25) rfl rfl Try.func71 (by kernel_rfl) rfl #[.slice A0 l0.length c0, .int .i64 t151, .int .i64 t152] rfl (by (try simp only [List.map_toArray, List.map_cons, List.map_nil]); first | done | rfl | (simp only [List.length_drop, List.length_take]; rfl)) ?_; (with_reducible refine (spec_l1Has.calls _ _ l0 t151 t152 true _ ?side1 ?side2 A7.out).mono ?_); (case side1 => repeat (first | exact HR0.out | (with_reducible refine Kd.C_alloc ?_ _) | (with_reducible refine Kd.C_drewN ?_ _) | (with_reducible refine Kd.C_drew ?_))); (case side2 => exact HC0.out); rintro e w' ⟨rfl, ⟨nd, rfl⟩⟩; refine ⟨_, rfl, ?_⟩))
     go_ret
     exact ⟨by first | rfl | (simp; done) | (simp [*]; done), by repeat (first | exact Drawn0.refl _ | apply Drawn0.step)⟩
    ·rw [if_neg c10] at H
     have c10b0 : (t151 == a1) = false := beq_eq_false_iff_ne.mpr c10
     have c10b1 : (t151 != a1) = true := bne_iff_ne.mpr c10
     obtain rfl := Option.some.inj H
     go_enter Try.func63, Try.ntmps63
     go_wp2_with (first | ((with_reducible refine gate_callee (f := 57) rfl ?_); refine goesL_ (some 14) rfl rfl Try.func57 (by kernel_rfl) rfl #[.string a3] rfl (by (try simp only [List.map_toArray, List.map_cons, List.map_nil]); first | done | rfl | (simp only [List.length_drop, List.length_take]; rfl)) ?_; (with_reducible refine (spec_l1Kind.calls a3 t151 t152 true _ A5.out).mono ?_); rintro e w' ⟨rfl, ⟨nd, rfl⟩⟩; refine ⟨_, rfl, ?_⟩) | ((with_reducible refine gate_callee (f := 71) rfl ?_); refine goesL_ (some 25) rfl rfl Try.func71 (by kernel_rfl) rfl #[.slice A0 l0.length c0, .int .i64 t151, .int .i64 t152] rfl (by (try simp only [List.map_toArray, List.map_cons, List.map_nil]); first | done | rfl | (simp only [List.length_drop, List.length_take]; rfl)) ?_; (with_reducible refine (spec_l1Has.calls _ _ l0 t151 t152 true _ ?side1 ?side2 A7.out).mono ?_); (case side1 => repeat (first | exact HR0.out | (with_reducible refine Kd.C_alloc ?_ _) | (with_reducible refine Kd.C_drewN ?_ _) | (with_reducible refine Kd.C_drew ?_))); (case side2 => exact HC0.out); rintro e w' ⟨rfl, ⟨nd, rfl⟩⟩; refine ⟨_, rfl, ?_⟩))
     go_ret
     exact ⟨by first | rfl | (simp; done) | (simp [*]; done), by repeat (first | exact Drawn0.refl _ | apply Drawn0.step)⟩
  ·replace c8 := Bool.eq_false_iff.mpr c8
   subst c8
   have H1 : (some false) = some r := by rw [if_neg (show ¬ (false = true) by decide)] at H; exact H
   clear H
   have H := H1
   clear H1
   obtain rfl := Option.some.inj H
   go_enter Try.func63, Try.ntmps63
   go_wp2_with (first | ((with_reducible refine gate_callee (f := 57) rfl ?_); refine goesL_ (some 14) rfl rfl Try.func57 (by kernel_rfl) rfl #[.string a3] rfl (by (try simp only [List.map_toArray, List.map_cons, List.map_nil]); first | done | rfl | (simp only [List.length_drop, List.length_take]; rfl)) ?_; (with_reducible refine (spec_l1Kind.calls a3 t151 t152 true _ A5.out).mono ?_); rintro e w' ⟨rfl, ⟨nd, rfl⟩⟩; refine ⟨_, rfl, ?_⟩) | ((with_reducible refine gate_callee (f := 71) rfl ?_); refine goesL_ (some 25) rfl rfl Try.func71 (by kernel_rfl) rfl #[.slice A0 l0.length c0, .int .i64 t151, .int .i64 t152] rfl (by (try simp only [List.map_toArray, List.map_cons, List.map_nil]); first | done | rfl | (simp only [List.length_drop, List.length_take]; rfl)) ?_; (with_reducible refine (spec_l1Has.calls _ _ l0 t151 t152 false _ ?side1 ?side2 A7.out).mono ?_); (case side1 => repeat (first | exact HR0.out | (with_reducible refine Kd.C_alloc ?_ _) | (with_reducible refine Kd.C_drewN ?_ _) | (with_reducible refine Kd.C_drew ?_))); (case side2 => exact HC0.out); rintro e w' ⟨rfl, ⟨nd, rfl⟩⟩; refine ⟨_, rfl, ?_⟩))
   go_ret
   exact ⟨by first | rfl | (simp; done) | (simp [*]; done), by repeat (first | exact Drawn0.refl _ | apply Drawn0.step)⟩
 ·replace c6 := Bool.eq_false_iff.mpr c6
  subst c6
  have H1 : ((spec_l1Base.f a3).bind fun t155 => (some t155)) = some r := by rw [if_neg (show ¬ (false = true) by decide)] at H; exact H
  clear H
  have H := H1
  clear H1
  replace H := Option.bind_eq_some_iff.mp H
  obtain ⟨t155, A110, H⟩ := H
  replace H : (some t155) = some r := H
  have A11 := Aside0.mk A110
  clear A110
  obtain rfl := Option.some.inj H
  go_enter Try.func63, Try.ntmps63
  go_wp2_with (first | ((with_reducible refine gate_callee (f := 57) rfl ?_); refine goesL_ (some 14) rfl rfl Try.func57 (by kernel_rfl) rfl #[.string a3] rfl (by (try simp only [List.map_toArray, List.map_cons, List.map_nil]); first | done | rfl | (simp only [List.length_drop, List.length_take]; rfl)) ?_; (with_reducible refine (spec_l1Kind.calls a3 t151 t152 false _ A5.out).mono ?_); rintro e w' ⟨rfl, ⟨nd, rfl⟩⟩; refine ⟨_, rfl, ?_⟩) | ((with_reducible refine gate_callee (f := 70) rfl ?_); refine goesL_ (some 21) rfl rfl Try.func70 (by kernel_rfl) rfl #[.string a3] rfl (by (try simp only [List.map_toArray, List.map_cons, List.map_nil]); first | done | rfl | (simp only [List.length_drop, List.length_take]; rfl)) ?_; (with_reducible refine (spec_l1Base.calls a3 t155 _ A11.out).mono ?_); rintro e w' ⟨rfl, ⟨nd, rfl⟩⟩; refine ⟨_, rfl, ?_⟩))
  go_ret
  exact ⟨by first | rfl | (simp; done) | (simp [*]; done), by repeat (first | exact Drawn0.refl _ | apply Drawn0.step)⟩

/-! ### spec_l1Can: function 64 -/
def spec_l1Can.f (a0 : Int) (a1 : Int) : Option (Bool) := if a1 = 0 then (none) else (some ((Int.tmod (wrap64 (Int.tdiv a0 a1)) 2) == 1))
set_option maxHeartbeats 8000000 in
set_option maxRecDepth 100000 in
theorem spec_l1Can.calls (a0 : Int) (a1 : Int) (r : Bool) (w : World) (h : spec_l1Can.f a0 a1 = some r) :
  Calls Try.prog 64 #[.int .i64 a0, .int .i64 a1] w fun e w' => e = .returned (.bool r) ∧ Drawn0 w w' := by
 have H : (if a1 = 0 then (none) else (some ((Int.tmod (wrap64 (Int.tdiv a0 a1)) 2) == 1))) = some r := h
 clear h
 by_cases c3 : a1 = 0
 ·rw [if_pos c3] at H
  exact absurd H (by simp)
 ·rw [if_neg c3] at H
  have c3b0 : (a1 == 0) = false := beq_eq_false_iff_ne.mpr c3
  have c3b1 : (a1 != 0) = true := bne_iff_ne.mpr c3
  obtain rfl := Option.some.inj H
  go_enter Try.func64, Try.ntmps64
  go_wp2
  go_ret
  exact ⟨by first | rfl | (simp; done) | (simp [*]; done), by repeat (first | exact Drawn0.refl _ | apply Drawn0.step)⟩

/-! ### spec_l1Record: function 42 -/
mutual
def spec_l1Record.j0 : Nat → List (List (S53)) → Int → Int → Bool → Int → List ByteArray → Option (Bool)
 | 0, _, _, _, _, _, _ => none
 | k + 1, x0, x1, x2, x26, x159000, x159001 => if x26 = true then (some false) else (spec_l1Record.l0 k x0 x1 x2 0 x159000 x159001)
def spec_l1Record.l0 : Nat → List (List (S53)) → Int → Int → Int → Int → List ByteArray → Option (Bool)
 | 0, _, _, _, _, _, _ => none
 | k + 1, x0, x1, x2, x8, x159000, x159001 => if x8 < (x159001.length : Int) then (if 0 ≤ x8 then ((spec_l1Field.f x0 x1 x2 (rdOf ByteArray.empty x159001 x8)).bind fun t161 => (if t161 = true then ((spec_l1Able.f k x0 (rdOf ByteArray.empty x159001 x8)).bind fun t163 => ((spec_l1Can.f x159000 1).bind fun t164 => (if t164 = true then ((spec_l1Can.f t163 1).bind fun t165 => (if t165 = true then ((spec_l1Can.f x159000 2).bind fun t166 => (if t166 = true then ((spec_l1Can.f t163 2).bind fun t167 => (spec_l1Record.j2 k x0 x1 x2 x8 t163 (!t167) x159000 x159001)) else (spec_l1Record.j2 k x0 x1 x2 x8 t163 false x159000 x159001))) else (spec_l1Record.j2 k x0 x1 x2 x8 t163 true x159000 x159001))) else ((spec_l1Can.f x159000 2).bind fun t168 => (if t168 = true then ((spec_l1Can.f t163 2).bind fun t169 => (spec_l1Record.j2 k x0 x1 x2 x8 t163 (!t169) x159000 x159001)) else (spec_l1Record.j2 k x0 x1 x2 x8 t163 false x159000 x159001)))))) else (some false))) else (none)) else (some true)
def spec_l1Record.j2 : Nat → List (List (S53)) → Int → Int → Int → Int → Bool → Int → List ByteArray → Option (Bool)
 | 0, _, _, _, _, _, _, _, _ => none
 | k + 1, x0, x1, x2, x8, x9, x68, x159000, x159001 => if x68 = true then (some false) else (if x159000 ≥ 4 then ((spec_l1Can.f x9 4).bind fun t170 => (if t170 = true then (spec_l1Record.l0 k x0 x1 x2 (wrap64 (x8 + 1)) x159000 x159001) else (some false))) else (spec_l1Record.l0 k x0 x1 x2 (wrap64 (x8 + 1)) x159000 x159001))
end
def spec_l1Record.f (k : Nat) (l0 : List (List (S53))) (a1 : Int) (a2 : Int) : Option (Bool) := if 0 ≤ a1 then (if a1 < (l0.length : Int) then (if 0 ≤ a2 then (if a2 < ((rd_L4 l0 a1).length : Int) then ((spec_l6In.f ((rd_T53 (rd_L4 l0 a1) a2).f0) 0 15).bind fun t159 => (if t159 = true then (spec_l1Record.j0 k l0 a1 a2 (decide ((((rd_T53 (rd_L4 l0 a1) a2).f1).length : Int) > 3)) ((rd_T53 (rd_L4 l0 a1) a2).f0) ((rd_T53 (rd_L4 l0 a1) a2).f1)) else (spec_l1Record.j0 k l0 a1 a2 true ((rd_T53 (rd_L4 l0 a1) a2).f0) ((rd_T53 (rd_L4 l0 a1) a2).f1)))) else (none)) else (none)) else (none)) else (none)
theorem spec_l1Record.mono_l : ∀ k, (∀ y0 y1 y2 y3 y4 y5, LeO (spec_l1Record.j0 k y0 y1 y2 y3 y4 y5) (spec_l1Record.j0 (k + 1) y0 y1 y2 y3 y4 y5)) ∧ (∀ y0 y1 y2 y3 y4 y5, LeO (spec_l1Record.l0 k y0 y1 y2 y3 y4 y5) (spec_l1Record.l0 (k + 1) y0 y1 y2 y3 y4 y5)) ∧ (∀ y0 y1 y2 y3 y4 y5 y6 y7, LeO (spec_l1Record.j2 k y0 y1 y2 y3 y4 y5 y6 y7) (spec_l1Record.j2 (k + 1) y0 y1 y2 y3 y4 y5 y6 y7))
 | 0 => ⟨fun _ _ _ _ _ _ r h => by simp [spec_l1Record.j0] at h, fun _ _ _ _ _ _ r h => by simp [spec_l1Record.l0] at h, fun _ _ _ _ _ _ _ _ r h => by simp [spec_l1Record.j2] at h⟩
 | k + 1 => by
  obtain ⟨ih0, ih1, ih2⟩ := spec_l1Record.mono_l k
  refine ⟨?_, ?_, ?_⟩
  ·intro y0 y1 y2 y3 y4 y5
   unfold spec_l1Record.j0
   repeat' first
   | (with_reducible exact ih0 _ _ _ _ _ _)
   | (with_reducible exact ih1 _ _ _ _ _ _)
   | (with_reducible exact ih2 _ _ _ _ _ _ _ _)
   | (with_reducible exact spec_l1Able.mono _ _ _)
   | (with_reducible exact LeO.refl _)
   | (with_reducible exact LeO.none _)
   | (with_reducible refine LeO.ite ?_ ?_)
   | (with_reducible refine LeO.bind ?_ (fun _ => ?_))
   | exact ih0 _ _ _ _ _ _
   | exact ih1 _ _ _ _ _ _
   | exact ih2 _ _ _ _ _ _ _ _
   | exact spec_l1Able.mono _ _ _
   | exact LeO.none _
   | refine LeO.ite ?_ ?_
   | refine LeO.bind ?_ (fun _ => ?_)
  ·intro y0 y1 y2 y3 y4 y5
   unfold spec_l1Record.l0
   repeat' first
   | (with_reducible exact ih0 _ _ _ _ _ _)
   | (with_reducible exact ih1 _ _ _ _ _ _)
   | (with_reducible exact ih2 _ _ _ _ _ _ _ _)
   | (with_reducible exact spec_l1Able.mono _ _ _)
   | (with_reducible exact LeO.refl _)
   | (with_reducible exact LeO.none _)
   | (with_reducible refine LeO.ite ?_ ?_)
   | (with_reducible refine LeO.bind ?_ (fun _ => ?_))
   | exact ih0 _ _ _ _ _ _
   | exact ih1 _ _ _ _ _ _
   | exact ih2 _ _ _ _ _ _ _ _
   | exact spec_l1Able.mono _ _ _
   | exact LeO.none _
   | refine LeO.ite ?_ ?_
   | refine LeO.bind ?_ (fun _ => ?_)
  ·intro y0 y1 y2 y3 y4 y5 y6 y7
   unfold spec_l1Record.j2
   repeat' first
   | (with_reducible exact ih0 _ _ _ _ _ _)
   | (with_reducible exact ih1 _ _ _ _ _ _)
   | (with_reducible exact ih2 _ _ _ _ _ _ _ _)
   | (with_reducible exact spec_l1Able.mono _ _ _)
   | (with_reducible exact LeO.refl _)
   | (with_reducible exact LeO.none _)
   | (with_reducible refine LeO.ite ?_ ?_)
   | (with_reducible refine LeO.bind ?_ (fun _ => ?_))
   | exact ih0 _ _ _ _ _ _
   | exact ih1 _ _ _ _ _ _
   | exact ih2 _ _ _ _ _ _ _ _
   | exact spec_l1Able.mono _ _ _
   | exact LeO.none _
   | refine LeO.ite ?_ ?_
   | refine LeO.bind ?_ (fun _ => ?_)
theorem spec_l1Record.mono : ∀ a0 a1 a2 k, LeO (spec_l1Record.f k a0 a1 a2) (spec_l1Record.f (k + 1) a0 a1 a2) := by
 intro a0 a1 a2 k
 obtain ⟨ih0, ih1, ih2⟩ := spec_l1Record.mono_l k
 unfold spec_l1Record.f
 repeat' first
   | (with_reducible exact ih0 _ _ _ _ _ _)
   | (with_reducible exact ih1 _ _ _ _ _ _)
   | (with_reducible exact ih2 _ _ _ _ _ _ _ _)
   | (with_reducible exact spec_l1Able.mono _ _ _)
   | (with_reducible exact LeO.refl _)
   | (with_reducible exact LeO.none _)
   | (with_reducible refine LeO.ite ?_ ?_)
   | (with_reducible refine LeO.bind ?_ (fun _ => ?_))
   | exact ih0 _ _ _ _ _ _
   | exact ih1 _ _ _ _ _ _
   | exact ih2 _ _ _ _ _ _ _ _
   | exact spec_l1Able.mono _ _ _
   | exact LeO.none _
   | refine LeO.ite ?_ ?_
   | refine LeO.bind ?_ (fun _ => ?_)
set_option maxHeartbeats 8000000 in
set_option maxRecDepth 100000 in
theorem spec_l1Record.calls (k : Nat) (A0 : Option Addr) (c0 : Nat) (l0 : List (List (S53))) (a1 : Int) (a2 : Int) (r : Bool) (w : World) (hr0 : Kd.C (Kd.slice 53 k53) w A0 l0.length l0) (hc0 : l0.length ≤ c0) (h : spec_l1Record.f k l0 a1 a2 = some r) :
  Calls Try.prog 42 #[.slice A0 l0.length c0, .int .i64 a1, .int .i64 a2] w fun e w' => e = .returned (.bool r) ∧ Below w.heap.size w w' := by
 have hu53 := Try.underlying53
 have HR0 := Aside0.mk hr0
 have HC0 := Aside0.mk hc0
 clear hr0 hc0
 have HB := Aside0.mk (Below.refl w.heap.size w)
 have H : (if 0 ≤ a1 then (if a1 < (l0.length : Int) then (if 0 ≤ a2 then (if a2 < ((rd_L4 l0 a1).length : Int) then ((spec_l6In.f ((rd_T53 (rd_L4 l0 a1) a2).f0) 0 15).bind fun t159 => (if t159 = true then (spec_l1Record.j0 k l0 a1 a2 (decide ((((rd_T53 (rd_L4 l0 a1) a2).f1).length : Int) > 3)) ((rd_T53 (rd_L4 l0 a1) a2).f0) ((rd_T53 (rd_L4 l0 a1) a2).f1)) else (spec_l1Record.j0 k l0 a1 a2 true ((rd_T53 (rd_L4 l0 a1) a2).f0) ((rd_T53 (rd_L4 l0 a1) a2).f1)))) else (none)) else (none)) else (none)) else (none)) = some r := h
 clear h
 by_cases c4 : 0 ≤ a1
 ·rw [if_pos c4] at H
  have c4b0 : decide (0 ≤ a1) = true := decide_eq_true c4
  clear c4
  by_cases c5 : a1 < (l0.length : Int)
  ·rw [if_pos c5] at H
   have c5b0 : decide (a1 < (l0.length : Int)) = true := decide_eq_true c5
   clear c5
   by_cases c6 : 0 ≤ a2
   ·rw [if_pos c6] at H
    have c6b0 : decide (0 ≤ a2) = true := decide_eq_true c6
    clear c6
    by_cases c7 : a2 < ((rd_L4 l0 a1).length : Int)
    ·rw [if_pos c7] at H
     have c7b0 : decide (a2 < ((rd_L4 l0 a1).length : Int)) = true := decide_eq_true c7
     clear c7
     have HC8 := Aside0.mk H
     clear H
     have p156 : 0 ≤ (a1 : Int) := of_decide_eq_true (by first | (with_reducible assumption) | assumption)
     have q156 : a1 < (l0.length : Int) := of_decide_eq_true (by first | (with_reducible assumption) | assumption)
     obtain ⟨ad156, A156_0, c156_0, e156, hx156_0, hl156_0, hi156_0⟩ := at_L4 HR0.out a1 p156 q156
     cases e156
     have HR156_0 := Aside0.mk hi156_0
     have HC156_0 := Aside0.mk hl156_0
     clear hi156_0 hl156_0
     replace p156 := eq_true p156
     replace q156 := eq_true q156
     have p157 : 0 ≤ (a2 : Int) := of_decide_eq_true (by first | (with_reducible assumption) | assumption)
     have q157 : a2 < ((rd_L4 l0 a1).length : Int) := of_decide_eq_true (by first | (with_reducible assumption) | assumption)
     obtain ⟨ad157, A157_1, c157_1, e157, hx157_0, hx157_1, hl157_1, hi157_1⟩ := at_T53 HR156_0.out a2 p157 q157
     cases e157
     have HR157_1 := Aside0.mk hi157_1
     have HC157_1 := Aside0.mk hl157_1
     clear hi157_1 hl157_1
     replace p157 := eq_true p157
     replace q157 := eq_true q157
     go_enter Try.func42, Try.ntmps42
     go_upto_region 2 with (first | ((with_reducible refine gate_dst (N := 7) rfl ?_); (try (refine gate_guard (by rfl) ?_; dsimp only)); refine box_event ?hg (N := 7) ?hd (cs := #[.int .i64 0, .slice none 0 0]) (t := 53) ?hr ?_; (case hd => rfl); (case hg => rfl); (case hr => first | (go_simp; done) | (go_simp; rfl)); intro gb158 hg w9 hbox hb; have n0_ := Up.BB HB hb; have n1_ := Aside0.mk (hbox); have n2_ := Aside0.mk ((by rw [hg]; exact (below_size (Up.Bup HB)) : w.heap.size ≤ gb158)); have n3_ := Aside0.mk ((by rw [hg]; exact (below_size (Up.Bup HB)) : w.heap.size ≤ gb158)); clear HB; have HB := n0_; have BK158 := n1_; have GW158 := n2_; have GE158 := n3_; clear n0_ n1_ n2_ n3_; clear hb hbox hg; have hcz10_0 : w9.cell? ⟨gb158, 0, none⟩ = some (.int .i64 0) := (blk_cell BK158.out 0).trans rfl; have hcz10_1 : w9.cell? ⟨gb158, 1, none⟩ = some (.slice none 0 0) := (blk_cell BK158.out 1).trans rfl; have hfz10_0 := blk_frozen BK158.out 0; have hfz10_1 := blk_frozen BK158.out 1))
     (try simp only [Act.put, List.setIfInBounds_toArray, List.set_cons_zero, List.set_cons_succ])
     go_cut [26] (fun v26 wc => ∃ (kq : Nat) (x26_7 : Bool), v26 = .bool x26_7 ∧ Aside0 (spec_l1Record.j0 kq l0 a1 a2 x26_7 ((rd_T53 (rd_L4 l0 a1) a2).f0) ((rd_T53 (rd_L4 l0 a1) a2).f1) = some r) ∧ Aside0 (kq ≤ k) ∧ Aside0 (wc.heap[gb158]? = some (.cells #[.int .i64 ((rd_T53 (rd_L4 l0 a1) a2).f0), (.slice A157_1 ((rd_T53 (rd_L4 l0 a1) a2).f1).length c157_1)] 53 (0, 0))) ∧ Aside0 (Below w.heap.size w wc))
     case first =>
      have H := HC8.out
      clear HC8
      replace H := Option.bind_eq_some_iff.mp H
      obtain ⟨t159, A110, H⟩ := H
      replace H : (if t159 = true then (spec_l1Record.j0 k l0 a1 a2 (decide ((((rd_T53 (rd_L4 l0 a1) a2).f1).length : Int) > 3)) ((rd_T53 (rd_L4 l0 a1) a2).f0) ((rd_T53 (rd_L4 l0 a1) a2).f1)) else (spec_l1Record.j0 k l0 a1 a2 true ((rd_T53 (rd_L4 l0 a1) a2).f0) ((rd_T53 (rd_L4 l0 a1) a2).f1))) = some r := H
      have A11 := Aside0.mk A110
      clear A110
      by_cases c12 : t159 = true
      ·subst c12
       have H1 : (spec_l1Record.j0 k l0 a1 a2 (decide ((((rd_T53 (rd_L4 l0 a1) a2).f1).length : Int) > 3)) ((rd_T53 (rd_L4 l0 a1) a2).f0) ((rd_T53 (rd_L4 l0 a1) a2).f1)) = some r := by rw [if_pos rfl] at H; exact H
       clear H
       have H := H1
       clear H1
       have H' := Aside0.mk H
       clear H
       have hcz13_0 : w9.cell? ⟨gb158, 0, none⟩ = some (.int .i64 0) := (blk_cell BK158.out 0).trans rfl
       have hcz13_1 : w9.cell? ⟨gb158, 1, none⟩ = some (.slice none 0 0) := (blk_cell BK158.out 1).trans rfl
       have hfz13_0 := blk_frozen BK158.out 0
       have hfz13_1 := blk_frozen BK158.out 1
       go_wp2_with (first | ((with_reducible refine gate_callee (f := 62) rfl ?_); refine goesL_ (some 19) rfl rfl Try.func62 (by kernel_rfl) rfl #[.int .i64 ((rd_T53 (rd_L4 l0 a1) a2).f0), .int .i64 0, .int .i64 15] rfl (by (try simp only [List.map_toArray, List.map_cons, List.map_nil]); first | done | rfl | (simp only [List.length_drop, List.length_take]; rfl)) ?_; (with_reducible refine (spec_l6In.calls ((rd_T53 (rd_L4 l0 a1) a2).f0) 0 15 true _ A11.out).mono ?_); rintro e w' ⟨rfl, ⟨nd, rfl⟩⟩; refine ⟨_, rfl, ?_⟩))
       go_meet
       case rel => exact ⟨_, (decide ((((rd_T53 (rd_L4 l0 a1) a2).f1).length : Int) > 3)), (by first | rfl | (simp; done) | (simp [*]; done)), H', ⟨by first | omega | exact Nat.le_refl _⟩, ⟨by (with_reducible repeat (first | refine blk_drewN ?_ _ | refine blk_drew ?_ | refine blk_alloc ?_ _)); refine blk_put (cs := #[.int .i64 ((rd_T53 (rd_L4 l0 a1) a2).f0), .slice none 0 0]) ?_ 1 _ rfl; (with_reducible repeat (first | refine blk_drewN ?_ _ | refine blk_drew ?_ | refine blk_alloc ?_ _)); refine blk_put (cs := #[.int .i64 0, .slice none 0 0]) ?_ 0 _ rfl; (with_reducible repeat (first | refine blk_drewN ?_ _ | refine blk_drew ?_ | refine blk_alloc ?_ _)); exact BK158.out⟩, ⟨by repeat (first | (with_reducible first | exact HB.out | apply below_alloc | apply pw_below_drewN | apply below_drew1 | refine below_set ?_ GE158.out) | exact HB.out)⟩⟩
      ·replace c12 := Bool.eq_false_iff.mpr c12
       subst c12
       have H1 : (spec_l1Record.j0 k l0 a1 a2 true ((rd_T53 (rd_L4 l0 a1) a2).f0) ((rd_T53 (rd_L4 l0 a1) a2).f1)) = some r := by rw [if_neg (show ¬ (false = true) by decide)] at H; exact H
       clear H
       have H := H1
       clear H1
       have H' := Aside0.mk H
       clear H
       have hcz14_0 : w9.cell? ⟨gb158, 0, none⟩ = some (.int .i64 0) := (blk_cell BK158.out 0).trans rfl
       have hcz14_1 : w9.cell? ⟨gb158, 1, none⟩ = some (.slice none 0 0) := (blk_cell BK158.out 1).trans rfl
       have hfz14_0 := blk_frozen BK158.out 0
       have hfz14_1 := blk_frozen BK158.out 1
       go_wp2_with (first | ((with_reducible refine gate_callee (f := 62) rfl ?_); refine goesL_ (some 19) rfl rfl Try.func62 (by kernel_rfl) rfl #[.int .i64 ((rd_T53 (rd_L4 l0 a1) a2).f0), .int .i64 0, .int .i64 15] rfl (by (try simp only [List.map_toArray, List.map_cons, List.map_nil]); first | done | rfl | (simp only [List.length_drop, List.length_take]; rfl)) ?_; (with_reducible refine (spec_l6In.calls ((rd_T53 (rd_L4 l0 a1) a2).f0) 0 15 false _ A11.out).mono ?_); rintro e w' ⟨rfl, ⟨nd, rfl⟩⟩; refine ⟨_, rfl, ?_⟩))
       go_meet
       case rel => exact ⟨_, (true), (by first | rfl | (simp; done) | (simp [*]; done)), H', ⟨by first | omega | exact Nat.le_refl _⟩, ⟨by (with_reducible repeat (first | refine blk_drewN ?_ _ | refine blk_drew ?_ | refine blk_alloc ?_ _)); refine blk_put (cs := #[.int .i64 ((rd_T53 (rd_L4 l0 a1) a2).f0), .slice none 0 0]) ?_ 1 _ rfl; (with_reducible repeat (first | refine blk_drewN ?_ _ | refine blk_drew ?_ | refine blk_alloc ?_ _)); refine blk_put (cs := #[.int .i64 0, .slice none 0 0]) ?_ 0 _ rfl; (with_reducible repeat (first | refine blk_drewN ?_ _ | refine blk_drew ?_ | refine blk_alloc ?_ _)); exact BK158.out⟩, ⟨by repeat (first | (with_reducible first | exact HB.out | apply below_alloc | apply pw_below_drewN | apply below_drew1 | refine below_set ?_ GE158.out) | exact HB.out)⟩⟩
     case rest =>
      clear HC8
      try clear c1
      try clear p1
      try clear q1
      try clear hx1
      try clear p2
      try clear c4
      try clear c4b0
      try clear c5
      try clear c5b0
      try clear c6
      try clear c6b0
      try clear c7
      try clear c7b0
      try clear c12
      try clear hcz10_0
      try clear hcz10_1
      try clear hcz13_0
      try clear hcz13_1
      try clear hcz14_0
      try clear hcz14_1
      try clear hfz10_0
      try clear hfz10_1
      try clear hfz13_0
      try clear hfz13_1
      try clear hfz14_0
      try clear hfz14_1
      try clear hx156_0
      try clear hx157_0
      try clear hx157_1
      try clear p156
      try clear p157
      try clear q156
      try clear q157
      obtain ⟨kq, x26_7, rfl, HA, HJ7, BK158, HB⟩ := hcut
      cases kq with
      | zero => exact absurd HA.out (by simp [spec_l1Record.j0])
      | succ kj7 =>
       have H := HA.out
       clear HA
       simp only [spec_l1Record.j0] at H
       by_cases c15 : x26_7 = true
       ·subst c15
        have H1 : (some false) = some r := by rw [if_pos rfl] at H; exact H
        clear H
        have H := H1
        clear H1
        obtain rfl := Option.some.inj H
        go_wp2
        go_ret
        exact ⟨by first | rfl | (simp [errW_none, errW_some] <;> rfl) | (simp [*, errW_none, errW_some] <;> rfl), by repeat (first | (with_reducible first | exact HB.out | apply below_alloc | apply pw_below_drewN | apply below_drew1 | refine below_set ?_ GE158.out) | exact HB.out)⟩
       ·replace c15 := Bool.eq_false_iff.mpr c15
        subst c15
        have H1 : (spec_l1Record.l0 kj7 l0 a1 a2 0 ((rd_T53 (rd_L4 l0 a1) a2).f0) ((rd_T53 (rd_L4 l0 a1) a2).f1)) = some r := by rw [if_neg (show ¬ (false = true) by decide)] at H; exact H
        clear H
        have H := H1
        clear H1
        have H' := Aside0.mk H
        clear H
        go_wp2
        go_loopg [8] kj7 (fun kq v8 w' => ∃ (x8_2 : Int), v8 = .int .i64 x8_2 ∧ Aside0 (spec_l1Record.l0 kq l0 a1 a2 x8_2 ((rd_T53 (rd_L4 l0 a1) a2).f0) ((rd_T53 (rd_L4 l0 a1) a2).f1) = some r) ∧ Aside0 (kq ≤ kj7) ∧ Aside0 (w'.heap[gb158]? = some (.cells #[.int .i64 ((rd_T53 (rd_L4 l0 a1) a2).f0), (.slice A157_1 ((rd_T53 (rd_L4 l0 a1) a2).f1).length c157_1)] 53 (0, 0))) ∧ Aside0 (Below w.heap.size w w'))
        case atStart => exact ⟨(0), (by first | rfl | (simp; done) | (simp [*]; done)), H', ⟨Nat.le_refl _⟩, ⟨by (with_reducible repeat (first | refine blk_drewN ?_ _ | refine blk_drew ?_ | refine blk_alloc ?_ _)); exact BK158.out⟩, ⟨by repeat (first | (with_reducible first | exact HB.out | apply below_alloc | apply pw_below_drewN | apply below_drew1 | refine below_set ?_ GE158.out) | exact HB.out)⟩⟩
        case round =>
         clear H'
         try clear c1
         try clear p1
         try clear q1
         try clear hx1
         try clear p2
         try clear c4
         try clear c4b0
         try clear c5
         try clear c5b0
         try clear c6
         try clear c6b0
         try clear c7
         try clear c7b0
         try clear c12
         try clear c15
         try clear p15
         try clear q15
         try clear hx15
         try clear hcz10_0
         try clear hcz10_1
         try clear hcz13_0
         try clear hcz13_1
         try clear hcz14_0
         try clear hcz14_1
         try clear hfz10_0
         try clear hfz10_1
         try clear hfz13_0
         try clear hfz13_1
         try clear hfz14_0
         try clear hfz14_1
         try clear hx156_0
         try clear hx157_0
         try clear hx157_1
         try clear p1
         try clear p156
         try clear p157
         try clear p2
         try clear q1
         try clear q156
         try clear q157
         obtain ⟨x8_2, rfl, HA, HK2, BK158, HB⟩ := hrel
         cases gk with
         | zero => exact absurd HA.out (by simp [spec_l1Record.l0])
         | succ k2 =>
          have H := HA.out
          clear HA
          simp only [spec_l1Record.l0] at H
          by_cases c16 : x8_2 < (((rd_T53 (rd_L4 l0 a1) a2).f1).length : Int)
          ·rw [if_pos c16] at H
           have c16b0 : decide (x8_2 < (((rd_T53 (rd_L4 l0 a1) a2).f1).length : Int)) = true := decide_eq_true c16
           clear c16
           by_cases c17 : 0 ≤ x8_2
           ·rw [if_pos c17] at H
            have c17b0 : decide (0 ≤ x8_2) = true := decide_eq_true c17
            clear c17
            replace H := Option.bind_eq_some_iff.mp H
            obtain ⟨t161, A180, H⟩ := H
            replace H : (if t161 = true then ((spec_l1Able.f k2 l0 (rdOf ByteArray.empty ((rd_T53 (rd_L4 l0 a1) a2).f1) x8_2)).bind fun t163 => ((spec_l1Can.f ((rd_T53 (rd_L4 l0 a1) a2).f0) 1).bind fun t164 => (if t164 = true then ((spec_l1Can.f t163 1).bind fun t165 => (if t165 = true then ((spec_l1Can.f ((rd_T53 (rd_L4 l0 a1) a2).f0) 2).bind fun t166 => (if t166 = true then ((spec_l1Can.f t163 2).bind fun t167 => (spec_l1Record.j2 k2 l0 a1 a2 x8_2 t163 (!t167) ((rd_T53 (rd_L4 l0 a1) a2).f0) ((rd_T53 (rd_L4 l0 a1) a2).f1))) else (spec_l1Record.j2 k2 l0 a1 a2 x8_2 t163 false ((rd_T53 (rd_L4 l0 a1) a2).f0) ((rd_T53 (rd_L4 l0 a1) a2).f1)))) else (spec_l1Record.j2 k2 l0 a1 a2 x8_2 t163 true ((rd_T53 (rd_L4 l0 a1) a2).f0) ((rd_T53 (rd_L4 l0 a1) a2).f1)))) else ((spec_l1Can.f ((rd_T53 (rd_L4 l0 a1) a2).f0) 2).bind fun t168 => (if t168 = true then ((spec_l1Can.f t163 2).bind fun t169 => (spec_l1Record.j2 k2 l0 a1 a2 x8_2 t163 (!t169) ((rd_T53 (rd_L4 l0 a1) a2).f0) ((rd_T53 (rd_L4 l0 a1) a2).f1))) else (spec_l1Record.j2 k2 l0 a1 a2 x8_2 t163 false ((rd_T53 (rd_L4 l0 a1) a2).f0) ((rd_T53 (rd_L4 l0 a1) a2).f1))))))) else (some false)) = some r := H
            have A18 := Aside0.mk A180
            clear A180
            by_cases c19 : t161 = true
            ·subst c19
             have H1 : ((spec_l1Able.f k2 l0 (rdOf ByteArray.empty ((rd_T53 (rd_L4 l0 a1) a2).f1) x8_2)).bind fun t163 => ((spec_l1Can.f ((rd_T53 (rd_L4 l0 a1) a2).f0) 1).bind fun t164 => (if t164 = true then ((spec_l1Can.f t163 1).bind fun t165 => (if t165 = true then ((spec_l1Can.f ((rd_T53 (rd_L4 l0 a1) a2).f0) 2).bind fun t166 => (if t166 = true then ((spec_l1Can.f t163 2).bind fun t167 => (spec_l1Record.j2 k2 l0 a1 a2 x8_2 t163 (!t167) ((rd_T53 (rd_L4 l0 a1) a2).f0) ((rd_T53 (rd_L4 l0 a1) a2).f1))) else (spec_l1Record.j2 k2 l0 a1 a2 x8_2 t163 false ((rd_T53 (rd_L4 l0 a1) a2).f0) ((rd_T53 (rd_L4 l0 a1) a2).f1)))) else (spec_l1Record.j2 k2 l0 a1 a2 x8_2 t163 true ((rd_T53 (rd_L4 l0 a1) a2).f0) ((rd_T53 (rd_L4 l0 a1) a2).f1)))) else ((spec_l1Can.f ((rd_T53 (rd_L4 l0 a1) a2).f0) 2).bind fun t168 => (if t168 = true then ((spec_l1Can.f t163 2).bind fun t169 => (spec_l1Record.j2 k2 l0 a1 a2 x8_2 t163 (!t169) ((rd_T53 (rd_L4 l0 a1) a2).f0) ((rd_T53 (rd_L4 l0 a1) a2).f1))) else (spec_l1Record.j2 k2 l0 a1 a2 x8_2 t163 false ((rd_T53 (rd_L4 l0 a1) a2).f0) ((rd_T53 (rd_L4 l0 a1) a2).f1))))))) = some r := by rw [if_pos rfl] at H; exact H
             clear H
             have H := H1
             clear H1
             replace H := Option.bind_eq_some_iff.mp H
             obtain ⟨t163, A200, H⟩ := H
             replace H : ((spec_l1Can.f ((rd_T53 (rd_L4 l0 a1) a2).f0) 1).bind fun t164 => (if t164 = true then ((spec_l1Can.f t163 1).bind fun t165 => (if t165 = true then ((spec_l1Can.f ((rd_T53 (rd_L4 l0 a1) a2).f0) 2).bind fun t166 => (if t166 = true then ((spec_l1Can.f t163 2).bind fun t167 => (spec_l1Record.j2 k2 l0 a1 a2 x8_2 t163 (!t167) ((rd_T53 (rd_L4 l0 a1) a2).f0) ((rd_T53 (rd_L4 l0 a1) a2).f1))) else (spec_l1Record.j2 k2 l0 a1 a2 x8_2 t163 false ((rd_T53 (rd_L4 l0 a1) a2).f0) ((rd_T53 (rd_L4 l0 a1) a2).f1)))) else (spec_l1Record.j2 k2 l0 a1 a2 x8_2 t163 true ((rd_T53 (rd_L4 l0 a1) a2).f0) ((rd_T53 (rd_L4 l0 a1) a2).f1)))) else ((spec_l1Can.f ((rd_T53 (rd_L4 l0 a1) a2).f0) 2).bind fun t168 => (if t168 = true then ((spec_l1Can.f t163 2).bind fun t169 => (spec_l1Record.j2 k2 l0 a1 a2 x8_2 t163 (!t169) ((rd_T53 (rd_L4 l0 a1) a2).f0) ((rd_T53 (rd_L4 l0 a1) a2).f1))) else (spec_l1Record.j2 k2 l0 a1 a2 x8_2 t163 false ((rd_T53 (rd_L4 l0 a1) a2).f0) ((rd_T53 (rd_L4 l0 a1) a2).f1)))))) = some r := H
             have A20 := Aside0.mk A200
             clear A200
             have HC21 := Aside0.mk H
             clear H
             have hcz22_0 : wr.cell? ⟨gb158, 0, none⟩ = some (.int .i64 ((rd_T53 (rd_L4 l0 a1) a2).f0)) := (blk_cell BK158.out 0).trans rfl
             have hcz22_1 : wr.cell? ⟨gb158, 1, none⟩ = some (.slice A157_1 ((rd_T53 (rd_L4 l0 a1) a2).f1).length c157_1) := (blk_cell BK158.out 1).trans rfl
             have hfz22_0 := blk_frozen BK158.out 0
             have hfz22_1 := blk_frozen BK158.out 1
             have p160 : 0 ≤ (x8_2 : Int) := of_decide_eq_true (by first | (with_reducible assumption) | assumption)
             have q160 : x8_2 < (((rd_T53 (rd_L4 l0 a1) a2).f1).length : Int) := of_decide_eq_true (by first | (with_reducible assumption) | assumption)
             obtain ⟨ad160, e160, hx160_0⟩ := Kd.at_string HR157_1.out x8_2 p160 q160
             cases e160
             replace hx160_0 := (HB.out.cell (World.block_lt_of_cell? w _ hx160_0)).trans hx160_0
             replace p160 := eq_true p160
             replace q160 := eq_true q160
             go_upto_region 10 with (first | ((with_reducible refine gate_callee (f := 63) rfl ?_); refine goesL_ (some 42) rfl rfl Try.func63 (by kernel_rfl) rfl #[.slice (some ad156) l0.length c0, .int .i64 a1, .int .i64 a2, .string (rdOf ByteArray.empty ((rd_T53 (rd_L4 l0 a1) a2).f1) x8_2)] rfl (by (try simp only [List.map_toArray, List.map_cons, List.map_nil]); first | done | rfl | (simp only [List.length_drop, List.length_take]; rfl)) ?_; (with_reducible refine (spec_l1Field.calls _ _ l0 a1 a2 (rdOf ByteArray.empty ((rd_T53 (rd_L4 l0 a1) a2).f1) x8_2) true _ ?side1 ?side2 A18.out).mono ?_); (case side1 => repeat (first | exact (Kd.C_below HR0.out HB.out) | (with_reducible refine Kd.C_alloc ?_ _) | (with_reducible refine Kd.C_drewN ?_ _) | (with_reducible refine Kd.C_drew ?_))); (case side2 => exact HC0.out); rintro e w' ⟨rfl, ⟨nd, rfl⟩⟩; refine ⟨_, rfl, ?_⟩; have p162 : 0 ≤ (x8_2 : Int) := of_decide_eq_true (by first | (with_reducible assumption) | assumption); have q162 : x8_2 < (((rd_T53 (rd_L4 l0 a1) a2).f1).length : Int) := of_decide_eq_true (by first | (with_reducible assumption) | assumption); obtain ⟨ad162, e162, hx162_0⟩ := Kd.at_string HR157_1.out x8_2 p162 q162; obtain rfl : ad160 = ad162 := (by injection e162); replace hx162_0 := (HB.out.cell (World.block_lt_of_cell? w _ hx162_0)).trans hx162_0; replace p162 := eq_true p162; replace q162 := eq_true q162) | ((with_reducible refine gate_callee (f := 53) rfl ?_); refine goesL_ (some 50) rfl rfl Try.func53 (by kernel_rfl) rfl #[.slice (some ad156) l0.length c0, .string (rdOf ByteArray.empty ((rd_T53 (rd_L4 l0 a1) a2).f1) x8_2)] rfl (by (try simp only [List.map_toArray, List.map_cons, List.map_nil]); first | done | rfl | (simp only [List.length_drop, List.length_take]; rfl)) ?_; (with_reducible refine (spec_l1Able.calls k2 _ _ l0 (rdOf ByteArray.empty ((rd_T53 (rd_L4 l0 a1) a2).f1) x8_2) t163 _ ?side1 ?side2 A20.out).mono ?_); (case side1 => repeat (first | exact (Kd.C_below HR0.out (by repeat (first | (with_reducible first | exact HB.out | apply below_alloc | apply pw_below_drewN | apply below_drew1 | refine below_set ?_ GE158.out) | exact HB.out))) | (with_reducible refine Kd.C_alloc ?_ _) | (with_reducible refine Kd.C_drewN ?_ _) | (with_reducible refine Kd.C_drew ?_))); (case side2 => exact HC0.out); rintro e w' ⟨rfl, ⟨nd, rfl⟩⟩; refine ⟨_, rfl, ?_⟩))
             (try simp only [Act.put, List.setIfInBounds_toArray, List.set_cons_zero, List.set_cons_succ])
             go_cut [68] (fun v68 wc => ∃ (kq : Nat) (x68_20 : Bool), v68 = .bool x68_20 ∧ Aside0 (spec_l1Record.j2 kq l0 a1 a2 x8_2 t163 x68_20 ((rd_T53 (rd_L4 l0 a1) a2).f0) ((rd_T53 (rd_L4 l0 a1) a2).f1) = some r) ∧ Aside0 (kq ≤ k2) ∧ Aside0 (wc.heap[gb158]? = some (.cells #[.int .i64 ((rd_T53 (rd_L4 l0 a1) a2).f0), (.slice (some ad160) ((rd_T53 (rd_L4 l0 a1) a2).f1).length c157_1)] 53 (0, 0))) ∧ Aside0 (Below w.heap.size w wc))
             case first =>
              have H := HC21.out
              clear HC21
              replace H := Option.bind_eq_some_iff.mp H
              obtain ⟨t164, A230, H⟩ := H
              replace H : (if t164 = true then ((spec_l1Can.f t163 1).bind fun t165 => (if t165 = true then ((spec_l1Can.f ((rd_T53 (rd_L4 l0 a1) a2).f0) 2).bind fun t166 => (if t166 = true then ((spec_l1Can.f t163 2).bind fun t167 => (spec_l1Record.j2 k2 l0 a1 a2 x8_2 t163 (!t167) ((rd_T53 (rd_L4 l0 a1) a2).f0) ((rd_T53 (rd_L4 l0 a1) a2).f1))) else (spec_l1Record.j2 k2 l0 a1 a2 x8_2 t163 false ((rd_T53 (rd_L4 l0 a1) a2).f0) ((rd_T53 (rd_L4 l0 a1) a2).f1)))) else (spec_l1Record.j2 k2 l0 a1 a2 x8_2 t163 true ((rd_T53 (rd_L4 l0 a1) a2).f0) ((rd_T53 (rd_L4 l0 a1) a2).f1)))) else ((spec_l1Can.f ((rd_T53 (rd_L4 l0 a1) a2).f0) 2).bind fun t168 => (if t168 = true then ((spec_l1Can.f t163 2).bind fun t169 => (spec_l1Record.j2 k2 l0 a1 a2 x8_2 t163 (!t169) ((rd_T53 (rd_L4 l0 a1) a2).f0) ((rd_T53 (rd_L4 l0 a1) a2).f1))) else (spec_l1Record.j2 k2 l0 a1 a2 x8_2 t163 false ((rd_T53 (rd_L4 l0 a1) a2).f0) ((rd_T53 (rd_L4 l0 a1) a2).f1))))) = some r := H
              have A23 := Aside0.mk A230
              clear A230
              by_cases c24 : t164 = true
              ·subst c24
               have H1 : ((spec_l1Can.f t163 1).bind fun t165 => (if t165 = true then ((spec_l1Can.f ((rd_T53 (rd_L4 l0 a1) a2).f0) 2).bind fun t166 => (if t166 = true then ((spec_l1Can.f t163 2).bind fun t167 => (spec_l1Record.j2 k2 l0 a1 a2 x8_2 t163 (!t167) ((rd_T53 (rd_L4 l0 a1) a2).f0) ((rd_T53 (rd_L4 l0 a1) a2).f1))) else (spec_l1Record.j2 k2 l0 a1 a2 x8_2 t163 false ((rd_T53 (rd_L4 l0 a1) a2).f0) ((rd_T53 (rd_L4 l0 a1) a2).f1)))) else (spec_l1Record.j2 k2 l0 a1 a2 x8_2 t163 true ((rd_T53 (rd_L4 l0 a1) a2).f0) ((rd_T53 (rd_L4 l0 a1) a2).f1)))) = some r := by rw [if_pos rfl] at H; exact H
               clear H
               have H := H1
               clear H1
               replace H := Option.bind_eq_some_iff.mp H
               obtain ⟨t165, A250, H⟩ := H
               replace H : (if t165 = true then ((spec_l1Can.f ((rd_T53 (rd_L4 l0 a1) a2).f0) 2).bind fun t166 => (if t166 = true then ((spec_l1Can.f t163 2).bind fun t167 => (spec_l1Record.j2 k2 l0 a1 a2 x8_2 t163 (!t167) ((rd_T53 (rd_L4 l0 a1) a2).f0) ((rd_T53 (rd_L4 l0 a1) a2).f1))) else (spec_l1Record.j2 k2 l0 a1 a2 x8_2 t163 false ((rd_T53 (rd_L4 l0 a1) a2).f0) ((rd_T53 (rd_L4 l0 a1) a2).f1)))) else (spec_l1Record.j2 k2 l0 a1 a2 x8_2 t163 true ((rd_T53 (rd_L4 l0 a1) a2).f0) ((rd_T53 (rd_L4 l0 a1) a2).f1))) = some r := H
               have A25 := Aside0.mk A250
               clear A250
               by_cases c26 : t165 = true
               ·subst c26
                have H1 : ((spec_l1Can.f ((rd_T53 (rd_L4 l0 a1) a2).f0) 2).bind fun t166 => (if t166 = true then ((spec_l1Can.f t163 2).bind fun t167 => (spec_l1Record.j2 k2 l0 a1 a2 x8_2 t163 (!t167) ((rd_T53 (rd_L4 l0 a1) a2).f0) ((rd_T53 (rd_L4 l0 a1) a2).f1))) else (spec_l1Record.j2 k2 l0 a1 a2 x8_2 t163 false ((rd_T53 (rd_L4 l0 a1) a2).f0) ((rd_T53 (rd_L4 l0 a1) a2).f1)))) = some r := by rw [if_pos rfl] at H; exact H
                clear H
                have H := H1
                clear H1
                replace H := Option.bind_eq_some_iff.mp H
                obtain ⟨t166, A270, H⟩ := H
                replace H : (if t166 = true then ((spec_l1Can.f t163 2).bind fun t167 => (spec_l1Record.j2 k2 l0 a1 a2 x8_2 t163 (!t167) ((rd_T53 (rd_L4 l0 a1) a2).f0) ((rd_T53 (rd_L4 l0 a1) a2).f1))) else (spec_l1Record.j2 k2 l0 a1 a2 x8_2 t163 false ((rd_T53 (rd_L4 l0 a1) a2).f0) ((rd_T53 (rd_L4 l0 a1) a2).f1))) = some r := H
                have A27 := Aside0.mk A270
                clear A270
                by_cases c28 : t166 = true
                ·subst c28
                 have H1 : ((spec_l1Can.f t163 2).bind fun t167 => (spec_l1Record.j2 k2 l0 a1 a2 x8_2 t163 (!t167) ((rd_T53 (rd_L4 l0 a1) a2).f0) ((rd_T53 (rd_L4 l0 a1) a2).f1))) = some r := by rw [if_pos rfl] at H; exact H
                 clear H
                 have H := H1
                 clear H1
                 replace H := Option.bind_eq_some_iff.mp H
                 obtain ⟨t167, A290, H⟩ := H
                 replace H : (spec_l1Record.j2 k2 l0 a1 a2 x8_2 t163 (!t167) ((rd_T53 (rd_L4 l0 a1) a2).f0) ((rd_T53 (rd_L4 l0 a1) a2).f1)) = some r := H
                 have A29 := Aside0.mk A290
                 clear A290
                 have H' := Aside0.mk H
                 clear H
                 have hcz30_0 : wr.cell? ⟨gb158, 0, none⟩ = some (.int .i64 ((rd_T53 (rd_L4 l0 a1) a2).f0)) := (blk_cell BK158.out 0).trans rfl
                 have hcz30_1 : wr.cell? ⟨gb158, 1, none⟩ = some (.slice (some ad160) ((rd_T53 (rd_L4 l0 a1) a2).f1).length c157_1) := (blk_cell BK158.out 1).trans rfl
                 have hfz30_0 := blk_frozen BK158.out 0
                 have hfz30_1 := blk_frozen BK158.out 1
                 go_wp2_with (first | ((with_reducible refine gate_callee (f := 64) rfl ?_); refine goesL_ (some 53) rfl rfl Try.func64 (by kernel_rfl) rfl #[.int .i64 ((rd_T53 (rd_L4 l0 a1) a2).f0), .int .i64 1] rfl (by (try simp only [List.map_toArray, List.map_cons, List.map_nil]); first | done | rfl | (simp only [List.length_drop, List.length_take]; rfl)) ?_; (with_reducible refine (spec_l1Can.calls ((rd_T53 (rd_L4 l0 a1) a2).f0) 1 true _ A23.out).mono ?_); rintro e w' ⟨rfl, ⟨nd, rfl⟩⟩; refine ⟨_, rfl, ?_⟩) | (go_at_call 64; (with_reducible refine (spec_l1Can.calls t163 1 true _ A25.out).mono ?_); rintro e w' ⟨rfl, ⟨nd, rfl⟩⟩) | (go_at_call 64; (with_reducible refine (spec_l1Can.calls ((rd_T53 (rd_L4 l0 a1) a2).f0) 2 true _ A27.out).mono ?_); rintro e w' ⟨rfl, ⟨nd, rfl⟩⟩) | (go_at_call 64; (with_reducible refine (spec_l1Can.calls t163 2 t167 _ A29.out).mono ?_); rintro e w' ⟨rfl, ⟨nd, rfl⟩⟩))
                 go_meet
                 case rel => exact ⟨_, (!t167), (by first | rfl | (simp; done) | (simp [*]; done)), H', ⟨by have := HJ7.out; have := HK2.out; first | omega | exact Nat.le_refl _⟩, ⟨by (with_reducible repeat (first | refine blk_drewN ?_ _ | refine blk_drew ?_ | refine blk_alloc ?_ _)); exact BK158.out⟩, ⟨by repeat (first | (with_reducible first | exact HB.out | apply below_alloc | apply pw_below_drewN | apply below_drew1 | refine below_set ?_ GE158.out) | exact HB.out)⟩⟩
                ·replace c28 := Bool.eq_false_iff.mpr c28
                 subst c28
                 have H1 : (spec_l1Record.j2 k2 l0 a1 a2 x8_2 t163 false ((rd_T53 (rd_L4 l0 a1) a2).f0) ((rd_T53 (rd_L4 l0 a1) a2).f1)) = some r := by rw [if_neg (show ¬ (false = true) by decide)] at H; exact H
                 clear H
                 have H := H1
                 clear H1
                 have H' := Aside0.mk H
                 clear H
                 have hcz31_0 : wr.cell? ⟨gb158, 0, none⟩ = some (.int .i64 ((rd_T53 (rd_L4 l0 a1) a2).f0)) := (blk_cell BK158.out 0).trans rfl
                 have hcz31_1 : wr.cell? ⟨gb158, 1, none⟩ = some (.slice (some ad160) ((rd_T53 (rd_L4 l0 a1) a2).f1).length c157_1) := (blk_cell BK158.out 1).trans rfl
                 have hfz31_0 := blk_frozen BK158.out 0
                 have hfz31_1 := blk_frozen BK158.out 1
                 go_wp2_with (first | ((with_reducible refine gate_callee (f := 64) rfl ?_); refine goesL_ (some 53) rfl rfl Try.func64 (by kernel_rfl) rfl #[.int .i64 ((rd_T53 (rd_L4 l0 a1) a2).f0), .int .i64 1] rfl (by (try simp only [List.map_toArray, List.map_cons, List.map_nil]); first | done | rfl | (simp only [List.length_drop, List.length_take]; rfl)) ?_; (with_reducible refine (spec_l1Can.calls ((rd_T53 (rd_L4 l0 a1) a2).f0) 1 true _ A23.out).mono ?_); rintro e w' ⟨rfl, ⟨nd, rfl⟩⟩; refine ⟨_, rfl, ?_⟩) | (go_at_call 64; (with_reducible refine (spec_l1Can.calls t163 1 true _ A25.out).mono ?_); rintro e w' ⟨rfl, ⟨nd, rfl⟩⟩) | (go_at_call 64; (with_reducible refine (spec_l1Can.calls ((rd_T53 (rd_L4 l0 a1) a2).f0) 2 false _ A27.out).mono ?_); rintro e w' ⟨rfl, ⟨nd, rfl⟩⟩))
                 go_meet
                 case rel => exact ⟨_, (false), (by first | rfl | (simp; done) | (simp [*]; done)), H', ⟨by have := HJ7.out; have := HK2.out; first | omega | exact Nat.le_refl _⟩, ⟨by (with_reducible repeat (first | refine blk_drewN ?_ _ | refine blk_drew ?_ | refine blk_alloc ?_ _)); exact BK158.out⟩, ⟨by repeat (first | (with_reducible first | exact HB.out | apply below_alloc | apply pw_below_drewN | apply below_drew1 | refine below_set ?_ GE158.out) | exact HB.out)⟩⟩
               ·replace c26 := Bool.eq_false_iff.mpr c26
                subst c26
                have H1 : (spec_l1Record.j2 k2 l0 a1 a2 x8_2 t163 true ((rd_T53 (rd_L4 l0 a1) a2).f0) ((rd_T53 (rd_L4 l0 a1) a2).f1)) = some r := by rw [if_neg (show ¬ (false = true) by decide)] at H; exact H
                clear H
                have H := H1
                clear H1
                have H' := Aside0.mk H
                clear H
                have hcz32_0 : wr.cell? ⟨gb158, 0, none⟩ = some (.int .i64 ((rd_T53 (rd_L4 l0 a1) a2).f0)) := (blk_cell BK158.out 0).trans rfl
                have hcz32_1 : wr.cell? ⟨gb158, 1, none⟩ = some (.slice (some ad160) ((rd_T53 (rd_L4 l0 a1) a2).f1).length c157_1) := (blk_cell BK158.out 1).trans rfl
                have hfz32_0 := blk_frozen BK158.out 0
                have hfz32_1 := blk_frozen BK158.out 1
                go_wp2_with (first | ((with_reducible refine gate_callee (f := 64) rfl ?_); refine goesL_ (some 53) rfl rfl Try.func64 (by kernel_rfl) rfl #[.int .i64 ((rd_T53 (rd_L4 l0 a1) a2).f0), .int .i64 1] rfl (by (try simp only [List.map_toArray, List.map_cons, List.map_nil]); first | done | rfl | (simp only [List.length_drop, List.length_take]; rfl)) ?_; (with_reducible refine (spec_l1Can.calls ((rd_T53 (rd_L4 l0 a1) a2).f0) 1 true _ A23.out).mono ?_); rintro e w' ⟨rfl, ⟨nd, rfl⟩⟩; refine ⟨_, rfl, ?_⟩) | (go_at_call 64; (with_reducible refine (spec_l1Can.calls t163 1 false _ A25.out).mono ?_); rintro e w' ⟨rfl, ⟨nd, rfl⟩⟩))
                go_meet
                case rel => exact ⟨_, (true), (by first | rfl | (simp; done) | (simp [*]; done)), H', ⟨by have := HJ7.out; have := HK2.out; first | omega | exact Nat.le_refl _⟩, ⟨by (with_reducible repeat (first | refine blk_drewN ?_ _ | refine blk_drew ?_ | refine blk_alloc ?_ _)); exact BK158.out⟩, ⟨by repeat (first | (with_reducible first | exact HB.out | apply below_alloc | apply pw_below_drewN | apply below_drew1 | refine below_set ?_ GE158.out) | exact HB.out)⟩⟩
              ·replace c24 := Bool.eq_false_iff.mpr c24
               subst c24
               have H1 : ((spec_l1Can.f ((rd_T53 (rd_L4 l0 a1) a2).f0) 2).bind fun t168 => (if t168 = true then ((spec_l1Can.f t163 2).bind fun t169 => (spec_l1Record.j2 k2 l0 a1 a2 x8_2 t163 (!t169) ((rd_T53 (rd_L4 l0 a1) a2).f0) ((rd_T53 (rd_L4 l0 a1) a2).f1))) else (spec_l1Record.j2 k2 l0 a1 a2 x8_2 t163 false ((rd_T53 (rd_L4 l0 a1) a2).f0) ((rd_T53 (rd_L4 l0 a1) a2).f1)))) = some r := by rw [if_neg (show ¬ (false = true) by decide)] at H; exact H
               clear H
               have H := H1
               clear H1
               replace H := Option.bind_eq_some_iff.mp H
               obtain ⟨t168, A330, H⟩ := H
               replace H : (if t168 = true then ((spec_l1Can.f t163 2).bind fun t169 => (spec_l1Record.j2 k2 l0 a1 a2 x8_2 t163 (!t169) ((rd_T53 (rd_L4 l0 a1) a2).f0) ((rd_T53 (rd_L4 l0 a1) a2).f1))) else (spec_l1Record.j2 k2 l0 a1 a2 x8_2 t163 false ((rd_T53 (rd_L4 l0 a1) a2).f0) ((rd_T53 (rd_L4 l0 a1) a2).f1))) = some r := H
               have A33 := Aside0.mk A330
               clear A330
               by_cases c34 : t168 = true
               ·subst c34
                have H1 : ((spec_l1Can.f t163 2).bind fun t169 => (spec_l1Record.j2 k2 l0 a1 a2 x8_2 t163 (!t169) ((rd_T53 (rd_L4 l0 a1) a2).f0) ((rd_T53 (rd_L4 l0 a1) a2).f1))) = some r := by rw [if_pos rfl] at H; exact H
                clear H
                have H := H1
                clear H1
                replace H := Option.bind_eq_some_iff.mp H
                obtain ⟨t169, A350, H⟩ := H
                replace H : (spec_l1Record.j2 k2 l0 a1 a2 x8_2 t163 (!t169) ((rd_T53 (rd_L4 l0 a1) a2).f0) ((rd_T53 (rd_L4 l0 a1) a2).f1)) = some r := H
                have A35 := Aside0.mk A350
                clear A350
                have H' := Aside0.mk H
                clear H
                have hcz36_0 : wr.cell? ⟨gb158, 0, none⟩ = some (.int .i64 ((rd_T53 (rd_L4 l0 a1) a2).f0)) := (blk_cell BK158.out 0).trans rfl
                have hcz36_1 : wr.cell? ⟨gb158, 1, none⟩ = some (.slice (some ad160) ((rd_T53 (rd_L4 l0 a1) a2).f1).length c157_1) := (blk_cell BK158.out 1).trans rfl
                have hfz36_0 := blk_frozen BK158.out 0
                have hfz36_1 := blk_frozen BK158.out 1
                go_wp2_with (first | ((with_reducible refine gate_callee (f := 64) rfl ?_); refine goesL_ (some 53) rfl rfl Try.func64 (by kernel_rfl) rfl #[.int .i64 ((rd_T53 (rd_L4 l0 a1) a2).f0), .int .i64 1] rfl (by (try simp only [List.map_toArray, List.map_cons, List.map_nil]); first | done | rfl | (simp only [List.length_drop, List.length_take]; rfl)) ?_; (with_reducible refine (spec_l1Can.calls ((rd_T53 (rd_L4 l0 a1) a2).f0) 1 false _ A23.out).mono ?_); rintro e w' ⟨rfl, ⟨nd, rfl⟩⟩; refine ⟨_, rfl, ?_⟩) | (go_at_call 64; (with_reducible refine (spec_l1Can.calls ((rd_T53 (rd_L4 l0 a1) a2).f0) 2 true _ A33.out).mono ?_); rintro e w' ⟨rfl, ⟨nd, rfl⟩⟩) | (go_at_call 64; (with_reducible refine (spec_l1Can.calls t163 2 t169 _ A35.out).mono ?_); rintro e w' ⟨rfl, ⟨nd, rfl⟩⟩))
                go_meet
                case rel => exact ⟨_, (!t169), (by first | rfl | (simp; done) | (simp [*]; done)), H', ⟨by have := HJ7.out; have := HK2.out; first | omega | exact Nat.le_refl _⟩, ⟨by (with_reducible repeat (first | refine blk_drewN ?_ _ | refine blk_drew ?_ | refine blk_alloc ?_ _)); exact BK158.out⟩, ⟨by repeat (first | (with_reducible first | exact HB.out | apply below_alloc | apply pw_below_drewN | apply below_drew1 | refine below_set ?_ GE158.out) | exact HB.out)⟩⟩
               ·replace c34 := Bool.eq_false_iff.mpr c34
                subst c34
                have H1 : (spec_l1Record.j2 k2 l0 a1 a2 x8_2 t163 false ((rd_T53 (rd_L4 l0 a1) a2).f0) ((rd_T53 (rd_L4 l0 a1) a2).f1)) = some r := by rw [if_neg (show ¬ (false = true) by decide)] at H; exact H
                clear H
                have H := H1
                clear H1
                have H' := Aside0.mk H
                clear H
                have hcz37_0 : wr.cell? ⟨gb158, 0, none⟩ = some (.int .i64 ((rd_T53 (rd_L4 l0 a1) a2).f0)) := (blk_cell BK158.out 0).trans rfl
                have hcz37_1 : wr.cell? ⟨gb158, 1, none⟩ = some (.slice (some ad160) ((rd_T53 (rd_L4 l0 a1) a2).f1).length c157_1) := (blk_cell BK158.out 1).trans rfl
                have hfz37_0 := blk_frozen BK158.out 0
                have hfz37_1 := blk_frozen BK158.out 1
                go_wp2_with (first | ((with_reducible refine gate_callee (f := 64) rfl ?_); refine goesL_ (some 53) rfl rfl Try.func64 (by kernel_rfl) rfl #[.int .i64 ((rd_T53 (rd_L4 l0 a1) a2).f0), .int .i64 1] rfl (by (try simp only [List.map_toArray, List.map_cons, List.map_nil]); first | done | rfl | (simp only [List.length_drop, List.length_take]; rfl)) ?_; (with_reducible refine (spec_l1Can.calls ((rd_T53 (rd_L4 l0 a1) a2).f0) 1 false _ A23.out).mono ?_); rintro e w' ⟨rfl, ⟨nd, rfl⟩⟩; refine ⟨_, rfl, ?_⟩) | (go_at_call 64; (with_reducible refine (spec_l1Can.calls ((rd_T53 (rd_L4 l0 a1) a2).f0) 2 false _ A33.out).mono ?_); rintro e w' ⟨rfl, ⟨nd, rfl⟩⟩))
                go_meet
                case rel => exact ⟨_, (false), (by first | rfl | (simp; done) | (simp [*]; done)), H', ⟨by have := HJ7.out; have := HK2.out; first | omega | exact Nat.le_refl _⟩, ⟨by (with_reducible repeat (first | refine blk_drewN ?_ _ | refine blk_drew ?_ | refine blk_alloc ?_ _)); exact BK158.out⟩, ⟨by repeat (first | (with_reducible first | exact HB.out | apply below_alloc | apply pw_below_drewN | apply below_drew1 | refine below_set ?_ GE158.out) | exact HB.out)⟩⟩
             case rest =>
              clear HC21
              try clear c1
              try clear p1
              try clear q1
              try clear hx1
              try clear c2
              try clear p2
              try clear c3
              try clear c4
              try clear c4b0
              try clear c5
              try clear c5b0
              try clear c6
              try clear c6b0
              try clear c7
              try clear c7b0
              try clear c12
              try clear c15
              try clear p15
              try clear q15
              try clear hx15
              try clear c16
              try clear c16b0
              try clear p16
              try clear q16
              try clear hx16
              try clear c17
              try clear c17b0
              try clear c19
              try clear c24
              try clear c26
              try clear c28
              try clear c34
              try clear hcz10_0
              try clear hcz10_1
              try clear hcz13_0
              try clear hcz13_1
              try clear hcz14_0
              try clear hcz14_1
              try clear hcz22_0
              try clear hcz22_1
              try clear hcz30_0
              try clear hcz30_1
              try clear hcz31_0
              try clear hcz31_1
              try clear hcz32_0
              try clear hcz32_1
              try clear hcz36_0
              try clear hcz36_1
              try clear hcz37_0
              try clear hcz37_1
              try clear hfz10_0
              try clear hfz10_1
              try clear hfz13_0
              try clear hfz13_1
              try clear hfz14_0
              try clear hfz14_1
              try clear hfz22_0
              try clear hfz22_1
              try clear hfz30_0
              try clear hfz30_1
              try clear hfz31_0
              try clear hfz31_1
              try clear hfz32_0
              try clear hfz32_1
              try clear hfz36_0
              try clear hfz36_1
              try clear hfz37_0
              try clear hfz37_1
              try clear hx156_0
              try clear hx157_0
              try clear hx157_1
              try clear hx160_0
              try clear hx162_0
              try clear p1
              try clear p15
              try clear p156
              try clear p157
              try clear p160
              try clear p162
              try clear p2
              try clear q1
              try clear q15
              try clear q156
              try clear q157
              try clear q160
              try clear q162
              obtain ⟨kq, x68_20, rfl, HA, HJ20, BK158, HB⟩ := hcut
              cases kq with
              | zero => exact absurd HA.out (by simp [spec_l1Record.j2])
              | succ kj20 =>
               have H := HA.out
               clear HA
               simp only [spec_l1Record.j2] at H
               by_cases c38 : x68_20 = true
               ·subst c38
                have H1 : (some false) = some r := by rw [if_pos rfl] at H; exact H
                clear H
                have H := H1
                clear H1
                obtain rfl := Option.some.inj H
                go_wp2
                go_ret
                exact ⟨by first | rfl | (simp [errW_none, errW_some] <;> rfl) | (simp [*, errW_none, errW_some] <;> rfl), by repeat (first | (with_reducible first | exact HB.out | apply below_alloc | apply pw_below_drewN | apply below_drew1 | refine below_set ?_ GE158.out) | exact HB.out)⟩
               ·replace c38 := Bool.eq_false_iff.mpr c38
                subst c38
                have H1 : (if ((rd_T53 (rd_L4 l0 a1) a2).f0) ≥ 4 then ((spec_l1Can.f t163 4).bind fun t170 => (if t170 = true then (spec_l1Record.l0 kj20 l0 a1 a2 (wrap64 (x8_2 + 1)) ((rd_T53 (rd_L4 l0 a1) a2).f0) ((rd_T53 (rd_L4 l0 a1) a2).f1)) else (some false))) else (spec_l1Record.l0 kj20 l0 a1 a2 (wrap64 (x8_2 + 1)) ((rd_T53 (rd_L4 l0 a1) a2).f0) ((rd_T53 (rd_L4 l0 a1) a2).f1))) = some r := by rw [if_neg (show ¬ (false = true) by decide)] at H; exact H
                clear H
                have H := H1
                clear H1
                by_cases c39 : ((rd_T53 (rd_L4 l0 a1) a2).f0) ≥ 4
                ·rw [if_pos c39] at H
                 have c39b0 : decide (4 ≤ ((rd_T53 (rd_L4 l0 a1) a2).f0)) = true := decide_eq_true c39
                 clear c39
                 replace H := Option.bind_eq_some_iff.mp H
                 obtain ⟨t170, A400, H⟩ := H
                 replace H : (if t170 = true then (spec_l1Record.l0 kj20 l0 a1 a2 (wrap64 (x8_2 + 1)) ((rd_T53 (rd_L4 l0 a1) a2).f0) ((rd_T53 (rd_L4 l0 a1) a2).f1)) else (some false)) = some r := H
                 have A40 := Aside0.mk A400
                 clear A400
                 by_cases c41 : t170 = true
                 ·subst c41
                  have H1 : (spec_l1Record.l0 kj20 l0 a1 a2 (wrap64 (x8_2 + 1)) ((rd_T53 (rd_L4 l0 a1) a2).f0) ((rd_T53 (rd_L4 l0 a1) a2).f1)) = some r := by rw [if_pos rfl] at H; exact H
                  clear H
                  have H := H1
                  clear H1
                  have H' := Aside0.mk H
                  clear H
                  have hcz42_0 : wc.cell? ⟨gb158, 0, none⟩ = some (.int .i64 ((rd_T53 (rd_L4 l0 a1) a2).f0)) := (blk_cell BK158.out 0).trans rfl
                  have hcz42_1 : wc.cell? ⟨gb158, 1, none⟩ = some (.slice (some ad160) ((rd_T53 (rd_L4 l0 a1) a2).f1).length c157_1) := (blk_cell BK158.out 1).trans rfl
                  have hfz42_0 := blk_frozen BK158.out 0
                  have hfz42_1 := blk_frozen BK158.out 1
                  go_wp2_with (first | (go_at_call 64; (with_reducible refine (spec_l1Can.calls t163 4 true _ A40.out).mono ?_); rintro e w' ⟨rfl, ⟨nd, rfl⟩⟩))
                  go_roundg kj20
                  case measure => have := HJ7.out; have := HK2.out; have := HJ20.out; omega
                  case rel => exact ⟨(wrap64 (x8_2 + 1)), (by first | rfl | (simp; done) | (simp [*]; done)), H', ⟨by have := HJ7.out; have := HK2.out; have := HJ20.out; omega⟩, ⟨by (with_reducible repeat (first | refine blk_drewN ?_ _ | refine blk_drew ?_ | refine blk_alloc ?_ _)); exact BK158.out⟩, ⟨by repeat (first | (with_reducible first | exact HB.out | apply below_alloc | apply pw_below_drewN | apply below_drew1 | refine below_set ?_ GE158.out) | exact HB.out)⟩⟩
                 ·replace c41 := Bool.eq_false_iff.mpr c41
                  subst c41
                  have H1 : (some false) = some r := by rw [if_neg (show ¬ (false = true) by decide)] at H; exact H
                  clear H
                  have H := H1
                  clear H1
                  obtain rfl := Option.some.inj H
                  have hcz43_0 : wc.cell? ⟨gb158, 0, none⟩ = some (.int .i64 ((rd_T53 (rd_L4 l0 a1) a2).f0)) := (blk_cell BK158.out 0).trans rfl
                  have hcz43_1 : wc.cell? ⟨gb158, 1, none⟩ = some (.slice (some ad160) ((rd_T53 (rd_L4 l0 a1) a2).f1).length c157_1) := (blk_cell BK158.out 1).trans rfl
                  have hfz43_0 := blk_frozen BK158.out 0
                  have hfz43_1 := blk_frozen BK158.out 1
                  go_wp2_with (first | (go_at_call 64; (with_reducible refine (spec_l1Can.calls t163 4 false _ A40.out).mono ?_); rintro e w' ⟨rfl, ⟨nd, rfl⟩⟩))
                  go_ret
                  exact ⟨by first | rfl | (simp [errW_none, errW_some] <;> rfl) | (simp [*, errW_none, errW_some] <;> rfl), by repeat (first | (with_reducible first | exact HB.out | apply below_alloc | apply pw_below_drewN | apply below_drew1 | refine below_set ?_ GE158.out) | exact HB.out)⟩
                ·rw [if_neg c39] at H
                 have c39b0 : decide (4 ≤ ((rd_T53 (rd_L4 l0 a1) a2).f0)) = false := decide_eq_false c39
                 clear c39
                 have H' := Aside0.mk H
                 clear H
                 have hcz44_0 : wc.cell? ⟨gb158, 0, none⟩ = some (.int .i64 ((rd_T53 (rd_L4 l0 a1) a2).f0)) := (blk_cell BK158.out 0).trans rfl
                 have hcz44_1 : wc.cell? ⟨gb158, 1, none⟩ = some (.slice (some ad160) ((rd_T53 (rd_L4 l0 a1) a2).f1).length c157_1) := (blk_cell BK158.out 1).trans rfl
                 have hfz44_0 := blk_frozen BK158.out 0
                 have hfz44_1 := blk_frozen BK158.out 1
                 go_wp2
                 go_roundg kj20
                 case measure => have := HJ7.out; have := HK2.out; have := HJ20.out; omega
                 case rel => exact ⟨(wrap64 (x8_2 + 1)), (by first | rfl | (simp; done) | (simp [*]; done)), H', ⟨by have := HJ7.out; have := HK2.out; have := HJ20.out; omega⟩, ⟨by (with_reducible repeat (first | refine blk_drewN ?_ _ | refine blk_drew ?_ | refine blk_alloc ?_ _)); exact BK158.out⟩, ⟨by repeat (first | (with_reducible first | exact HB.out | apply below_alloc | apply pw_below_drewN | apply below_drew1 | refine below_set ?_ GE158.out) | exact HB.out)⟩⟩
            ·replace c19 := Bool.eq_false_iff.mpr c19
             subst c19
             have H1 : (some false) = some r := by rw [if_neg (show ¬ (false = true) by decide)] at H; exact H
             clear H
             have H := H1
             clear H1
             obtain rfl := Option.some.inj H
             have hcz45_0 : wr.cell? ⟨gb158, 0, none⟩ = some (.int .i64 ((rd_T53 (rd_L4 l0 a1) a2).f0)) := (blk_cell BK158.out 0).trans rfl
             have hcz45_1 : wr.cell? ⟨gb158, 1, none⟩ = some (.slice A157_1 ((rd_T53 (rd_L4 l0 a1) a2).f1).length c157_1) := (blk_cell BK158.out 1).trans rfl
             have hfz45_0 := blk_frozen BK158.out 0
             have hfz45_1 := blk_frozen BK158.out 1
             have p160 : 0 ≤ (x8_2 : Int) := of_decide_eq_true (by first | (with_reducible assumption) | assumption)
             have q160 : x8_2 < (((rd_T53 (rd_L4 l0 a1) a2).f1).length : Int) := of_decide_eq_true (by first | (with_reducible assumption) | assumption)
             obtain ⟨ad160, e160, hx160_0⟩ := Kd.at_string HR157_1.out x8_2 p160 q160
             cases e160
             replace hx160_0 := (HB.out.cell (World.block_lt_of_cell? w _ hx160_0)).trans hx160_0
             replace p160 := eq_true p160
             replace q160 := eq_true q160
             go_wp2_with (first | ((with_reducible refine gate_callee (f := 63) rfl ?_); refine goesL_ (some 42) rfl rfl Try.func63 (by kernel_rfl) rfl #[.slice (some ad156) l0.length c0, .int .i64 a1, .int .i64 a2, .string (rdOf ByteArray.empty ((rd_T53 (rd_L4 l0 a1) a2).f1) x8_2)] rfl (by (try simp only [List.map_toArray, List.map_cons, List.map_nil]); first | done | rfl | (simp only [List.length_drop, List.length_take]; rfl)) ?_; (with_reducible refine (spec_l1Field.calls _ _ l0 a1 a2 (rdOf ByteArray.empty ((rd_T53 (rd_L4 l0 a1) a2).f1) x8_2) false _ ?side1 ?side2 A18.out).mono ?_); (case side1 => repeat (first | exact (Kd.C_below HR0.out HB.out) | (with_reducible refine Kd.C_alloc ?_ _) | (with_reducible refine Kd.C_drewN ?_ _) | (with_reducible refine Kd.C_drew ?_))); (case side2 => exact HC0.out); rintro e w' ⟨rfl, ⟨nd, rfl⟩⟩; refine ⟨_, rfl, ?_⟩))
             go_ret
             exact ⟨by first | rfl | (simp [errW_none, errW_some] <;> rfl) | (simp [*, errW_none, errW_some] <;> rfl), by repeat (first | (with_reducible first | exact HB.out | apply below_alloc | apply pw_below_drewN | apply below_drew1 | refine below_set ?_ GE158.out) | exact HB.out)⟩
           ·rw [if_neg c17] at H
            exact absurd H (by simp)
          ·rw [if_neg c16] at H
           have c16b0 : decide (x8_2 < (((rd_T53 (rd_L4 l0 a1) a2).f1).length : Int)) = false := decide_eq_false c16
           clear c16
           obtain rfl := Option.some.inj H
           have hcz46_0 : wr.cell? ⟨gb158, 0, none⟩ = some (.int .i64 ((rd_T53 (rd_L4 l0 a1) a2).f0)) := (blk_cell BK158.out 0).trans rfl
           have hcz46_1 : wr.cell? ⟨gb158, 1, none⟩ = some (.slice A157_1 ((rd_T53 (rd_L4 l0 a1) a2).f1).length c157_1) := (blk_cell BK158.out 1).trans rfl
           have hfz46_0 := blk_frozen BK158.out 0
           have hfz46_1 := blk_frozen BK158.out 1
           go_wp2
           go_ret
           exact ⟨by first | rfl | (simp [errW_none, errW_some] <;> rfl) | (simp [*, errW_none, errW_some] <;> rfl), by repeat (first | (with_reducible first | exact HB.out | apply below_alloc | apply pw_below_drewN | apply below_drew1 | refine below_set ?_ GE158.out) | exact HB.out)⟩
    ·rw [if_neg c7] at H
     exact absurd H (by simp)
   ·rw [if_neg c6] at H
    exact absurd H (by simp)
  ·rw [if_neg c5] at H
   exact absurd H (by simp)
 ·rw [if_neg c4] at H
  exact absurd H (by simp)

end Go.Proofs.Yticolaohngmcfaa.OFnTypeHolds
