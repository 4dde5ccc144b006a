-- Laid by a program of this session (wip/myprint.py): the kit's print of the functions, contracts of our own among them.
import Derived.Test.YticolaohngmcfaaOFnExactTypeOkx0
import Derived.Test.YticolaohngmcfaaOFnExactTypeOkx5
namespace Go.Proofs.Yticolaohngmcfaa.OFnExactTypeOk
open Go.RowKit Go.Proofs.YticolaohngmcfaaW.PrintWords Go.Proofs.YticolaohngmcfaaW.PrintLast Go.Proofs.YticolaohngmcfaaW.PrintMore
attribute [local go_sem] max2_int min2_int max_two min_two max_three min_three max_four min_four   -- for this text's walks alone
set_option linter.unusedVariables false
set_option linter.unusedSimpArgs false

/-! ### spec_l1Base: function 70 -/
def spec_l1Base.f (a0 : ByteArray) : Option (Bool) := if a0.toList = ([110] : List UInt8) then (some true) else (if a0.toList = ([98] : List UInt8) then (some true) else (some (a0.toList == ([111] : List UInt8))))
set_option maxHeartbeats 8000000 in
set_option maxRecDepth 100000 in
theorem spec_l1Base.calls (a0 : ByteArray) (r : Bool) (w : World) (h : spec_l1Base.f a0 = some r) :
    Calls Try.prog 70 #[.string a0] w fun e w' => e = .returned (.bool r) ∧ Drawn0 w w' := by
  have H : (if a0.toList = ([110] : List UInt8) then (some true) else (if a0.toList = ([98] : List UInt8) then (some true) else (some (a0.toList == ([111] : List UInt8))))) = some r := h
  clear h
  by_cases c2 : a0.toList = ([110] : List UInt8)
  · rw [if_pos c2] at H
    have c2b0 : (a0.toList == ([110] : List UInt8)) = true := beq_iff_eq.mpr c2
    have c2b1 : (a0.toList != ([110] : List UInt8)) = false := bne_eq_false_iff_eq.mpr c2
    clear c2
    obtain rfl := Option.some.inj H
    go_enter Try.func70, Try.ntmps70
    go_wp2
    go_ret
    exact ⟨by first | rfl | (simp; done) | (simp [*]; done), by repeat (first | exact Drawn0.refl _ | apply Drawn0.step)⟩
  · rw [if_neg c2] at H
    have c2b0 : (a0.toList == ([110] : List UInt8)) = false := beq_eq_false_iff_ne.mpr c2
    have c2b1 : (a0.toList != ([110] : List UInt8)) = true := bne_iff_ne.mpr c2
    by_cases c3 : a0.toList = ([98] : List UInt8)
    · rw [if_pos c3] at H
      have c3b0 : (a0.toList == ([98] : List UInt8)) = true := beq_iff_eq.mpr c3
      have c3b1 : (a0.toList != ([98] : List UInt8)) = false := bne_eq_false_iff_eq.mpr c3
      clear c3
      obtain rfl := Option.some.inj H
      go_enter Try.func70, Try.ntmps70
      go_wp2
      go_ret
      exact ⟨by first | rfl | (simp; done) | (simp [*]; done), by repeat (first | exact Drawn0.refl _ | apply Drawn0.step)⟩
    · rw [if_neg c3] at H
      have c3b0 : (a0.toList == ([98] : List UInt8)) = false := beq_eq_false_iff_ne.mpr c3
      have c3b1 : (a0.toList != ([98] : List UInt8)) = true := bne_iff_ne.mpr c3
      obtain rfl := Option.some.inj H
      go_enter Try.func70, Try.ntmps70
      go_wp2
      go_ret
      exact ⟨by first | rfl | (simp; done) | (simp [*]; done), by repeat (first | exact Drawn0.refl _ | apply Drawn0.step)⟩

/-! ### spec_l1Has: function 71 -/
def spec_l1Has.f (l0 : List (List (S53))) (a1 : Int) (a2 : Int) : Option (Bool) := if a1 < (l0.length : Int) then (if 0 ≤ a1 then (some (decide (a2 < ((rd_L6 l0 a1).length : Int)))) else (none)) else (some false)
set_option maxHeartbeats 8000000 in
set_option maxRecDepth 100000 in
theorem spec_l1Has.calls (A0 : Option Addr) (c0 : Nat) (l0 : List (List (S53))) (a1 : Int) (a2 : Int) (r : Bool) (w : World) (hr0 : Kd.C (Kd.slice 53 k53) w A0 l0.length l0) (hc0 : l0.length ≤ c0) (h : spec_l1Has.f l0 a1 a2 = some r) :
    Calls Try.prog 71 #[.slice A0 l0.length c0, .int .i64 a1, .int .i64 a2] w fun e w' => e = .returned (.bool r) ∧ Drawn0 w w' := by
  have HR0 := Aside0.mk hr0
  have HC0 := Aside0.mk hc0
  clear hr0 hc0
  have H : (if a1 < (l0.length : Int) then (if 0 ≤ a1 then (some (decide (a2 < ((rd_L6 l0 a1).length : Int)))) else (none)) else (some false)) = some r := h
  clear h
  by_cases c4 : a1 < (l0.length : Int)
  · rw [if_pos c4] at H
    have c4b0 : decide (a1 < (l0.length : Int)) = true := decide_eq_true c4
    clear c4
    by_cases c5 : 0 ≤ a1
    · rw [if_pos c5] at H
      have c5b0 : decide (0 ≤ a1) = true := decide_eq_true c5
      clear c5
      obtain rfl := Option.some.inj H
      have p191 : 0 ≤ (a1 : Int) := of_decide_eq_true (by first | (with_reducible assumption) | assumption)
      have q191 : a1 < (l0.length : Int) := of_decide_eq_true (by first | (with_reducible assumption) | assumption)
      obtain ⟨ad191, A191_0, c191_0, e191, hx191_0, hl191_0, hi191_0⟩ := at_L6 HR0.out a1 p191 q191
      cases e191
      have HR191_0 := Aside0.mk hi191_0
      have HC191_0 := Aside0.mk hl191_0
      clear hi191_0 hl191_0
      replace p191 := eq_true p191
      replace q191 := eq_true q191
      go_enter Try.func71, Try.ntmps71
      go_wp2
      go_ret
      exact ⟨by first | rfl | (simp; done) | (simp [*]; done), by repeat (first | exact Drawn0.refl _ | apply Drawn0.step)⟩
    · rw [if_neg c5] at H
      exact absurd H (by simp)
  · rw [if_neg c4] at H
    have c4b0 : decide (a1 < (l0.length : Int)) = false := decide_eq_false c4
    clear c4
    obtain rfl := Option.some.inj H
    go_enter Try.func71, Try.ntmps71
    go_wp2
    go_ret
    exact ⟨by first | rfl | (simp; done) | (simp [*]; done), by repeat (first | exact Drawn0.refl _ | apply Drawn0.step)⟩

/-! ### spec_l1Field: function 63 -/
def spec_l1Field.f (l0 : List (List (S53))) (a1 : Int) (a2 : Int) (a3 : ByteArray) : Option (Bool) := (spec_l1Kind.f a3).bind fun bt192 => (if bt192.2.2 = true then ((spec_l1Has.f l0 bt192.1 bt192.2.1).bind fun t195 => (if t195 = true then (if bt192.1 < a1 then (some true) else (if bt192.1 = a1 then (some (decide (bt192.2.1 < a2))) else (some false))) else (some false))) else ((spec_l1Base.f a3).bind fun t196 => (some t196)))
set_option maxHeartbeats 8000000 in
set_option maxRecDepth 100000 in
theorem spec_l1Field.calls (A0 : Option Addr) (c0 : Nat) (l0 : List (List (S53))) (a1 : Int) (a2 : Int) (a3 : ByteArray) (r : Bool) (w : World) (hr0 : Kd.C (Kd.slice 53 k53) w A0 l0.length l0) (hc0 : l0.length ≤ c0) (h : spec_l1Field.f l0 a1 a2 a3 = some r) :
    Calls Try.prog 63 #[.slice A0 l0.length c0, .int .i64 a1, .int .i64 a2, .string a3] w fun e w' => e = .returned (.bool r) ∧ Drawn0 w w' := by
  have HR0 := Aside0.mk hr0
  have HC0 := Aside0.mk hc0
  clear hr0 hc0
  have H : ((spec_l1Kind.f a3).bind fun bt192 => (if bt192.2.2 = true then ((spec_l1Has.f l0 bt192.1 bt192.2.1).bind fun t195 => (if t195 = true then (if bt192.1 < a1 then (some true) else (if bt192.1 = a1 then (some (decide (bt192.2.1 < a2))) else (some false))) else (some false))) else ((spec_l1Base.f a3).bind fun t196 => (some t196)))) = some r := h
  clear h
  replace H := Option.bind_eq_some_iff.mp H
  obtain ⟨⟨t192, t193, t194⟩, A50, H⟩ := H
  replace H : (if t194 = true then ((spec_l1Has.f l0 t192 t193).bind fun t195 => (if t195 = true then (if t192 < a1 then (some true) else (if t192 = a1 then (some (decide (t193 < a2))) else (some false))) else (some false))) else ((spec_l1Base.f a3).bind fun t196 => (some t196))) = some r := H
  have A5 := Aside0.mk A50
  clear A50
  by_cases c6 : t194 = true
  · subst c6
    have H1 : ((spec_l1Has.f l0 t192 t193).bind fun t195 => (if t195 = true then (if t192 < a1 then (some true) else (if t192 = a1 then (some (decide (t193 < a2))) else (some false))) else (some false))) = some r := by rw [if_pos rfl] at H; exact H
    clear H
    have H := H1
    clear H1
    replace H := Option.bind_eq_some_iff.mp H
    obtain ⟨t195, A70, H⟩ := H
    replace H : (if t195 = true then (if t192 < a1 then (some true) else (if t192 = a1 then (some (decide (t193 < a2))) else (some false))) else (some false)) = some r := H
    have A7 := Aside0.mk A70
    clear A70
    by_cases c8 : t195 = true
    · subst c8
      have H1 : (if t192 < a1 then (some true) else (if t192 = a1 then (some (decide (t193 < a2))) else (some false))) = some r := by rw [if_pos rfl] at H; exact H
      clear H
      have H := H1
      clear H1
      by_cases c9 : t192 < a1
      · rw [if_pos c9] at H
        have c9b0 : decide (t192 < a1) = true := decide_eq_true c9
        clear c9
        obtain rfl := Option.some.inj H
        go_enter Try.func63, Try.ntmps63
        go_wp2_with (first | ((with_reducible refine gate_callee (f := 57) rfl ?_); refine goesL_ (some 14) rfl rfl Try.func57 (by kernel_rfl) rfl #[.string a3] rfl (by (try simp only [List.map_toArray, List.map_cons, List.map_nil]); first | done | rfl | (simp only [List.length_drop, List.length_take]; rfl)) ?_; (with_reducible refine (spec_l1Kind.calls a3 t192 t193 true _ A5.out).mono ?_); rintro e w' ⟨rfl, ⟨nd, rfl⟩⟩; refine ⟨_, rfl, ?_⟩) | ((with_reducible refine gate_callee (f := 71) rfl ?_); refine goesL_ (some 25) rfl rfl Try.func71 (by kernel_rfl) rfl #[.slice A0 l0.length c0, .int .i64 t192, .int .i64 t193] rfl (by (try simp only [List.map_toArray, List.map_cons, List.map_nil]); first | done | rfl | (simp only [List.length_drop, List.length_take]; rfl)) ?_; (with_reducible refine (spec_l1Has.calls _ _ l0 t192 t193 true _ ?side1 ?side2 A7.out).mono ?_); (case side1 => repeat (first | exact HR0.out | (with_reducible refine Kd.C_alloc ?_ _) | (with_reducible refine Kd.C_drewN ?_ _) | (with_reducible refine Kd.C_drew ?_))); (case side2 => exact HC0.out); rintro e w' ⟨rfl, ⟨nd, rfl⟩⟩; refine ⟨_, rfl, ?_⟩))
        go_ret
        exact ⟨by first | rfl | (simp; done) | (simp [*]; done), by repeat (first | exact Drawn0.refl _ | apply Drawn0.step)⟩
      · rw [if_neg c9] at H
        have c9b0 : decide (t192 < a1) = false := decide_eq_false c9
        clear c9
        by_cases c10 : t192 = a1
        · rw [if_pos c10] at H
          have c10b0 : (t192 == a1) = true := beq_iff_eq.mpr c10
          have c10b1 : (t192 != a1) = false := bne_eq_false_iff_eq.mpr c10
          clear c10
          obtain rfl := Option.some.inj H
          go_enter Try.func63, Try.ntmps63
          go_wp2_with (first | ((with_reducible refine gate_callee (f := 57) rfl ?_); refine goesL_ (some 14) rfl rfl Try.func57 (by kernel_rfl) rfl #[.string a3] rfl (by (try simp only [List.map_toArray, List.map_cons, List.map_nil]); first | done | rfl | (simp only [List.length_drop, List.length_take]; rfl)) ?_; (with_reducible refine (spec_l1Kind.calls a3 t192 t193 true _ A5.out).mono ?_); rintro e w' ⟨rfl, ⟨nd, rfl⟩⟩; refine ⟨_, rfl, ?_⟩) | ((with_reducible refine gate_callee (f := 71) rfl ?_); refine goesL_ (some 25) rfl rfl Try.func71 (by kernel_rfl) rfl #[.slice A0 l0.length c0, .int .i64 t192, .int .i64 t193] rfl (by (try simp only [List.map_toArray, List.map_cons, List.map_nil]); first | done | rfl | (simp only [List.length_drop, List.length_take]; rfl)) ?_; (with_reducible refine (spec_l1Has.calls _ _ l0 t192 t193 true _ ?side1 ?side2 A7.out).mono ?_); (case side1 => repeat (first | exact HR0.out | (with_reducible refine Kd.C_alloc ?_ _) | (with_reducible refine Kd.C_drewN ?_ _) | (with_reducible refine Kd.C_drew ?_))); (case side2 => exact HC0.out); rintro e w' ⟨rfl, ⟨nd, rfl⟩⟩; refine ⟨_, rfl, ?_⟩))
          go_ret
          exact ⟨by first | rfl | (simp; done) | (simp [*]; done), by repeat (first | exact Drawn0.refl _ | apply Drawn0.step)⟩
        · rw [if_neg c10] at H
          have c10b0 : (t192 == a1) = false := beq_eq_false_iff_ne.mpr c10
          have c10b1 : (t192 != a1) = true := bne_iff_ne.mpr c10
          obtain rfl := Option.some.inj H
          go_enter Try.func63, Try.ntmps63
          go_wp2_with (first | ((with_reducible refine gate_callee (f := 57) rfl ?_); refine goesL_ (some 14) rfl rfl Try.func57 (by kernel_rfl) rfl #[.string a3] rfl (by (try simp only [List.map_toArray, List.map_cons, List.map_nil]); first | done | rfl | (simp only [List.length_drop, List.length_take]; rfl)) ?_; (with_reducible refine (spec_l1Kind.calls a3 t192 t193 true _ A5.out).mono ?_); rintro e w' ⟨rfl, ⟨nd, rfl⟩⟩; refine ⟨_, rfl, ?_⟩) | ((with_reducible refine gate_callee (f := 71) rfl ?_); refine goesL_ (some 25) rfl rfl Try.func71 (by kernel_rfl) rfl #[.slice A0 l0.length c0, .int .i64 t192, .int .i64 t193] rfl (by (try simp only [List.map_toArray, List.map_cons, List.map_nil]); first | done | rfl | (simp only [List.length_drop, List.length_take]; rfl)) ?_; (with_reducible refine (spec_l1Has.calls _ _ l0 t192 t193 true _ ?side1 ?side2 A7.out).mono ?_); (case side1 => repeat (first | exact HR0.out | (with_reducible refine Kd.C_alloc ?_ _) | (with_reducible refine Kd.C_drewN ?_ _) | (with_reducible refine Kd.C_drew ?_))); (case side2 => exact HC0.out); rintro e w' ⟨rfl, ⟨nd, rfl⟩⟩; refine ⟨_, rfl, ?_⟩))
          go_ret
          exact ⟨by first | rfl | (simp; done) | (simp [*]; done), by repeat (first | exact Drawn0.refl _ | apply Drawn0.step)⟩
    · replace c8 := Bool.eq_false_iff.mpr c8
      subst c8
      have H1 : (some false) = some r := by rw [if_neg (show ¬ (false = true) by decide)] at H; exact H
      clear H
      have H := H1
      clear H1
      obtain rfl := Option.some.inj H
      go_enter Try.func63, Try.ntmps63
      go_wp2_with (first | ((with_reducible refine gate_callee (f := 57) rfl ?_); refine goesL_ (some 14) rfl rfl Try.func57 (by kernel_rfl) rfl #[.string a3] rfl (by (try simp only [List.map_toArray, List.map_cons, List.map_nil]); first | done | rfl | (simp only [List.length_drop, List.length_take]; rfl)) ?_; (with_reducible refine (spec_l1Kind.calls a3 t192 t193 true _ A5.out).mono ?_); rintro e w' ⟨rfl, ⟨nd, rfl⟩⟩; refine ⟨_, rfl, ?_⟩) | ((with_reducible refine gate_callee (f := 71) rfl ?_); refine goesL_ (some 25) rfl rfl Try.func71 (by kernel_rfl) rfl #[.slice A0 l0.length c0, .int .i64 t192, .int .i64 t193] rfl (by (try simp only [List.map_toArray, List.map_cons, List.map_nil]); first | done | rfl | (simp only [List.length_drop, List.length_take]; rfl)) ?_; (with_reducible refine (spec_l1Has.calls _ _ l0 t192 t193 false _ ?side1 ?side2 A7.out).mono ?_); (case side1 => repeat (first | exact HR0.out | (with_reducible refine Kd.C_alloc ?_ _) | (with_reducible refine Kd.C_drewN ?_ _) | (with_reducible refine Kd.C_drew ?_))); (case side2 => exact HC0.out); rintro e w' ⟨rfl, ⟨nd, rfl⟩⟩; refine ⟨_, rfl, ?_⟩))
      go_ret
      exact ⟨by first | rfl | (simp; done) | (simp [*]; done), by repeat (first | exact Drawn0.refl _ | apply Drawn0.step)⟩
  · replace c6 := Bool.eq_false_iff.mpr c6
    subst c6
    have H1 : ((spec_l1Base.f a3).bind fun t196 => (some t196)) = some r := by rw [if_neg (show ¬ (false = true) by decide)] at H; exact H
    clear H
    have H := H1
    clear H1
    replace H := Option.bind_eq_some_iff.mp H
    obtain ⟨t196, A110, H⟩ := H
    replace H : (some t196) = some r := H
    have A11 := Aside0.mk A110
    clear A110
    obtain rfl := Option.some.inj H
    go_enter Try.func63, Try.ntmps63
    go_wp2_with (first | ((with_reducible refine gate_callee (f := 57) rfl ?_); refine goesL_ (some 14) rfl rfl Try.func57 (by kernel_rfl) rfl #[.string a3] rfl (by (try simp only [List.map_toArray, List.map_cons, List.map_nil]); first | done | rfl | (simp only [List.length_drop, List.length_take]; rfl)) ?_; (with_reducible refine (spec_l1Kind.calls a3 t192 t193 false _ A5.out).mono ?_); rintro e w' ⟨rfl, ⟨nd, rfl⟩⟩; refine ⟨_, rfl, ?_⟩) | ((with_reducible refine gate_callee (f := 70) rfl ?_); refine goesL_ (some 21) rfl rfl Try.func70 (by kernel_rfl) rfl #[.string a3] rfl (by (try simp only [List.map_toArray, List.map_cons, List.map_nil]); first | done | rfl | (simp only [List.length_drop, List.length_take]; rfl)) ?_; (with_reducible refine (spec_l1Base.calls a3 t196 _ A11.out).mono ?_); rintro e w' ⟨rfl, ⟨nd, rfl⟩⟩; refine ⟨_, rfl, ?_⟩))
    go_ret
    exact ⟨by first | rfl | (simp; done) | (simp [*]; done), by repeat (first | exact Drawn0.refl _ | apply Drawn0.step)⟩

/-! ### spec_l1Can: function 64 -/
def spec_l1Can.f (a0 : Int) (a1 : Int) : Option (Bool) := if a1 = 0 then (none) else (some ((Int.tmod (wrap64 (Int.tdiv a0 a1)) 2) == 1))
set_option maxHeartbeats 8000000 in
set_option maxRecDepth 100000 in
theorem spec_l1Can.calls (a0 : Int) (a1 : Int) (r : Bool) (w : World) (h : spec_l1Can.f a0 a1 = some r) :
    Calls Try.prog 64 #[.int .i64 a0, .int .i64 a1] w fun e w' => e = .returned (.bool r) ∧ Drawn0 w w' := by
  have H : (if a1 = 0 then (none) else (some ((Int.tmod (wrap64 (Int.tdiv a0 a1)) 2) == 1))) = some r := h
  clear h
  by_cases c3 : a1 = 0
  · rw [if_pos c3] at H
    exact absurd H (by simp)
  · rw [if_neg c3] at H
    have c3b0 : (a1 == 0) = false := beq_eq_false_iff_ne.mpr c3
    have c3b1 : (a1 != 0) = true := bne_iff_ne.mpr c3
    obtain rfl := Option.some.inj H
    go_enter Try.func64, Try.ntmps64
    go_wp2
    go_ret
    exact ⟨by first | rfl | (simp; done) | (simp [*]; done), by repeat (first | exact Drawn0.refl _ | apply Drawn0.step)⟩

/-! ### spec_l1Record: function 42 -/
mutual
def spec_l1Record.j0 : Nat → List (List (S53)) → Int → Int → Bool → Int → List ByteArray → Option (Bool)
  | 0, _, _, _, _, _, _ => none
  | k + 1, x0, x1, x2, x26, x200000, x200001 => if x26 = true then (some false) else (spec_l1Record.l0 k x0 x1 x2 0 x200000 x200001)
def spec_l1Record.l0 : Nat → List (List (S53)) → Int → Int → Int → Int → List ByteArray → Option (Bool)
  | 0, _, _, _, _, _, _ => none
  | k + 1, x0, x1, x2, x8, x200000, x200001 => if x8 < (x200001.length : Int) then (if 0 ≤ x8 then ((spec_l1Field.f x0 x1 x2 (rdOf ByteArray.empty x200001 x8)).bind fun t202 => (if t202 = true then ((spec_l1Able.f k x0 (rdOf ByteArray.empty x200001 x8)).bind fun t204 => ((spec_l1Can.f x200000 1).bind fun t205 => (if t205 = true then ((spec_l1Can.f t204 1).bind fun t206 => (if t206 = true then ((spec_l1Can.f x200000 2).bind fun t207 => (if t207 = true then ((spec_l1Can.f t204 2).bind fun t208 => (spec_l1Record.j2 k x0 x1 x2 x8 t204 (!t208) x200000 x200001)) else (spec_l1Record.j2 k x0 x1 x2 x8 t204 false x200000 x200001))) else (spec_l1Record.j2 k x0 x1 x2 x8 t204 true x200000 x200001))) else ((spec_l1Can.f x200000 2).bind fun t209 => (if t209 = true then ((spec_l1Can.f t204 2).bind fun t210 => (spec_l1Record.j2 k x0 x1 x2 x8 t204 (!t210) x200000 x200001)) else (spec_l1Record.j2 k x0 x1 x2 x8 t204 false x200000 x200001)))))) else (some false))) else (none)) else (some true)
def spec_l1Record.j2 : Nat → List (List (S53)) → Int → Int → Int → Int → Bool → Int → List ByteArray → Option (Bool)
  | 0, _, _, _, _, _, _, _, _ => none
  | k + 1, x0, x1, x2, x8, x9, x68, x200000, x200001 => if x68 = true then (some false) else (if x200000 ≥ 4 then ((spec_l1Can.f x9 4).bind fun t211 => (if t211 = true then (spec_l1Record.l0 k x0 x1 x2 (wrap64 (x8 + 1)) x200000 x200001) else (some false))) else (spec_l1Record.l0 k x0 x1 x2 (wrap64 (x8 + 1)) x200000 x200001))
end
def spec_l1Record.f (k : Nat) (l0 : List (List (S53))) (a1 : Int) (a2 : Int) : Option (Bool) := if 0 ≤ a1 then (if a1 < (l0.length : Int) then (if 0 ≤ a2 then (if a2 < ((rd_L6 l0 a1).length : Int) then ((spec_l6In.f ((rd_T53 (rd_L6 l0 a1) a2).f0) 0 15).bind fun t200 => (if t200 = true then (spec_l1Record.j0 k l0 a1 a2 (decide ((((rd_T53 (rd_L6 l0 a1) a2).f1).length : Int) > 3)) ((rd_T53 (rd_L6 l0 a1) a2).f0) ((rd_T53 (rd_L6 l0 a1) a2).f1)) else (spec_l1Record.j0 k l0 a1 a2 true ((rd_T53 (rd_L6 l0 a1) a2).f0) ((rd_T53 (rd_L6 l0 a1) a2).f1)))) else (none)) else (none)) else (none)) else (none)
theorem spec_l1Record.mono_l : ∀ k, (∀ y0 y1 y2 y3 y4 y5, LeO (spec_l1Record.j0 k y0 y1 y2 y3 y4 y5) (spec_l1Record.j0 (k + 1) y0 y1 y2 y3 y4 y5)) ∧ (∀ y0 y1 y2 y3 y4 y5, LeO (spec_l1Record.l0 k y0 y1 y2 y3 y4 y5) (spec_l1Record.l0 (k + 1) y0 y1 y2 y3 y4 y5)) ∧ (∀ y0 y1 y2 y3 y4 y5 y6 y7, LeO (spec_l1Record.j2 k y0 y1 y2 y3 y4 y5 y6 y7) (spec_l1Record.j2 (k + 1) y0 y1 y2 y3 y4 y5 y6 y7))
  | 0 => ⟨fun _ _ _ _ _ _ r h => by simp [spec_l1Record.j0] at h, fun _ _ _ _ _ _ r h => by simp [spec_l1Record.l0] at h, fun _ _ _ _ _ _ _ _ r h => by simp [spec_l1Record.j2] at h⟩
  | k + 1 => by
    obtain ⟨ih0, ih1, ih2⟩ := spec_l1Record.mono_l k
    refine ⟨?_, ?_, ?_⟩
    · intro y0 y1 y2 y3 y4 y5
      unfold spec_l1Record.j0
      repeat' first
      | (with_reducible exact ih0 _ _ _ _ _ _)
      | (with_reducible exact ih1 _ _ _ _ _ _)
      | (with_reducible exact ih2 _ _ _ _ _ _ _ _)
      | (with_reducible exact spec_l1Able.mono _ _ _)
      | (with_reducible exact LeO.refl _)
      | (with_reducible exact LeO.none _)
      | (with_reducible refine LeO.ite ?_ ?_)
      | (with_reducible refine LeO.bind ?_ (fun _ => ?_))
      | exact ih0 _ _ _ _ _ _
      | exact ih1 _ _ _ _ _ _
      | exact ih2 _ _ _ _ _ _ _ _
      | exact spec_l1Able.mono _ _ _
      | exact LeO.none _
      | refine LeO.ite ?_ ?_
      | refine LeO.bind ?_ (fun _ => ?_)
    · intro y0 y1 y2 y3 y4 y5
      unfold spec_l1Record.l0
      repeat' first
      | (with_reducible exact ih0 _ _ _ _ _ _)
      | (with_reducible exact ih1 _ _ _ _ _ _)
      | (with_reducible exact ih2 _ _ _ _ _ _ _ _)
      | (with_reducible exact spec_l1Able.mono _ _ _)
      | (with_reducible exact LeO.refl _)
      | (with_reducible exact LeO.none _)
      | (with_reducible refine LeO.ite ?_ ?_)
      | (with_reducible refine LeO.bind ?_ (fun _ => ?_))
      | exact ih0 _ _ _ _ _ _
      | exact ih1 _ _ _ _ _ _
      | exact ih2 _ _ _ _ _ _ _ _
      | exact spec_l1Able.mono _ _ _
      | exact LeO.none _
      | refine LeO.ite ?_ ?_
      | refine LeO.bind ?_ (fun _ => ?_)
    · intro y0 y1 y2 y3 y4 y5 y6 y7
      unfold spec_l1Record.j2
      repeat' first
      | (with_reducible exact ih0 _ _ _ _ _ _)
      | (with_reducible exact ih1 _ _ _ _ _ _)
      | (with_reducible exact ih2 _ _ _ _ _ _ _ _)
      | (with_reducible exact spec_l1Able.mono _ _ _)
      | (with_reducible exact LeO.refl _)
      | (with_reducible exact LeO.none _)
      | (with_reducible refine LeO.ite ?_ ?_)
      | (with_reducible refine LeO.bind ?_ (fun _ => ?_))
      | exact ih0 _ _ _ _ _ _
      | exact ih1 _ _ _ _ _ _
      | exact ih2 _ _ _ _ _ _ _ _
      | exact spec_l1Able.mono _ _ _
      | exact LeO.none _
      | refine LeO.ite ?_ ?_
      | refine LeO.bind ?_ (fun _ => ?_)
theorem spec_l1Record.mono : ∀ a0 a1 a2 k, LeO (spec_l1Record.f k a0 a1 a2) (spec_l1Record.f (k + 1) a0 a1 a2) := by
  intro a0 a1 a2 k
  obtain ⟨ih0, ih1, ih2⟩ := spec_l1Record.mono_l k
  unfold spec_l1Record.f
  repeat' first
      | (with_reducible exact ih0 _ _ _ _ _ _)
      | (with_reducible exact ih1 _ _ _ _ _ _)
      | (with_reducible exact ih2 _ _ _ _ _ _ _ _)
      | (with_reducible exact spec_l1Able.mono _ _ _)
      | (with_reducible exact LeO.refl _)
      | (with_reducible exact LeO.none _)
      | (with_reducible refine LeO.ite ?_ ?_)
      | (with_reducible refine LeO.bind ?_ (fun _ => ?_))
      | exact ih0 _ _ _ _ _ _
      | exact ih1 _ _ _ _ _ _
      | exact ih2 _ _ _ _ _ _ _ _
      | exact spec_l1Able.mono _ _ _
      | exact LeO.none _
      | refine LeO.ite ?_ ?_
      | refine LeO.bind ?_ (fun _ => ?_)
set_option maxHeartbeats 8000000 in
set_option maxRecDepth 100000 in
theorem spec_l1Record.calls (k : Nat) (A0 : Option Addr) (c0 : Nat) (l0 : List (List (S53))) (a1 : Int) (a2 : Int) (r : Bool) (w : World) (hr0 : Kd.C (Kd.slice 53 k53) w A0 l0.length l0) (hc0 : l0.length ≤ c0) (h : spec_l1Record.f k l0 a1 a2 = some r) :
    Calls Try.prog 42 #[.slice A0 l0.length c0, .int .i64 a1, .int .i64 a2] w fun e w' => e = .returned (.bool r) ∧ Below w.heap.size w w' := by
  have hu53 := Try.underlying53
  have HR0 := Aside0.mk hr0
  have HC0 := Aside0.mk hc0
  clear hr0 hc0
  have HB := Aside0.mk (Below.refl w.heap.size w)
  have H : (if 0 ≤ a1 then (if a1 < (l0.length : Int) then (if 0 ≤ a2 then (if a2 < ((rd_L6 l0 a1).length : Int) then ((spec_l6In.f ((rd_T53 (rd_L6 l0 a1) a2).f0) 0 15).bind fun t200 => (if t200 = true then (spec_l1Record.j0 k l0 a1 a2 (decide ((((rd_T53 (rd_L6 l0 a1) a2).f1).length : Int) > 3)) ((rd_T53 (rd_L6 l0 a1) a2).f0) ((rd_T53 (rd_L6 l0 a1) a2).f1)) else (spec_l1Record.j0 k l0 a1 a2 true ((rd_T53 (rd_L6 l0 a1) a2).f0) ((rd_T53 (rd_L6 l0 a1) a2).f1)))) else (none)) else (none)) else (none)) else (none)) = some r := h
  clear h
  by_cases c4 : 0 ≤ a1
  · rw [if_pos c4] at H
    have c4b0 : decide (0 ≤ a1) = true := decide_eq_true c4
    clear c4
    by_cases c5 : a1 < (l0.length : Int)
    · rw [if_pos c5] at H
      have c5b0 : decide (a1 < (l0.length : Int)) = true := decide_eq_true c5
      clear c5
      by_cases c6 : 0 ≤ a2
      · rw [if_pos c6] at H
        have c6b0 : decide (0 ≤ a2) = true := decide_eq_true c6
        clear c6
        by_cases c7 : a2 < ((rd_L6 l0 a1).length : Int)
        · rw [if_pos c7] at H
          have c7b0 : decide (a2 < ((rd_L6 l0 a1).length : Int)) = true := decide_eq_true c7
          clear c7
          have HC8 := Aside0.mk H
          clear H
          have p197 : 0 ≤ (a1 : Int) := of_decide_eq_true (by first | (with_reducible assumption) | assumption)
          have q197 : a1 < (l0.length : Int) := of_decide_eq_true (by first | (with_reducible assumption) | assumption)
          obtain ⟨ad197, A197_0, c197_0, e197, hx197_0, hl197_0, hi197_0⟩ := at_L6 HR0.out a1 p197 q197
          cases e197
          have HR197_0 := Aside0.mk hi197_0
          have HC197_0 := Aside0.mk hl197_0
          clear hi197_0 hl197_0
          replace p197 := eq_true p197
          replace q197 := eq_true q197
          have p198 : 0 ≤ (a2 : Int) := of_decide_eq_true (by first | (with_reducible assumption) | assumption)
          have q198 : a2 < ((rd_L6 l0 a1).length : Int) := of_decide_eq_true (by first | (with_reducible assumption) | assumption)
          obtain ⟨ad198, A198_1, c198_1, e198, hx198_0, hx198_1, hl198_1, hi198_1⟩ := at_T53 HR197_0.out a2 p198 q198
          cases e198
          have HR198_1 := Aside0.mk hi198_1
          have HC198_1 := Aside0.mk hl198_1
          clear hi198_1 hl198_1
          replace p198 := eq_true p198
          replace q198 := eq_true q198
          go_enter Try.func42, Try.ntmps42
          go_upto_region 2 with (first | ((with_reducible refine gate_dst (N := 7) rfl ?_); (try (refine gate_guard (by rfl) ?_; dsimp only)); refine box_event ?hg (N := 7) ?hd (cs := #[.int .i64 0, .slice none 0 0]) (t := 53) ?hr ?_; (case hd => rfl); (case hg => rfl); (case hr => first | (go_simp; done) | (go_simp; rfl)); intro gb199 hg w9 hbox hb; have n0_ := Aside0.mk (below_step (by repeat (first | (with_reducible first | exact HB.out | apply below_alloc | apply pw_below_drewN | apply below_drew1) | exact HB.out)) hb); have n1_ := Aside0.mk (hbox); have n2_ := Aside0.mk ((by rw [hg]; exact (below_size (by repeat (first | (with_reducible first | exact HB.out | apply below_alloc | apply pw_below_drewN | apply below_drew1) | exact HB.out))) : w.heap.size ≤ gb199)); have n3_ := Aside0.mk ((by rw [hg]; exact (below_size (by repeat (first | (with_reducible first | exact HB.out | apply below_alloc | apply pw_below_drewN | apply below_drew1) | exact HB.out))) : w.heap.size ≤ gb199)); clear HB; have HB := n0_; have BK199 := n1_; have GW199 := n2_; have GE199 := n3_; clear n0_ n1_ n2_ n3_; clear hb hbox hg; have hcz10_0 : w9.cell? ⟨gb199, 0, none⟩ = some (.int .i64 0) := (blk_cell BK199.out 0).trans rfl; have hcz10_1 : w9.cell? ⟨gb199, 1, none⟩ = some (.slice none 0 0) := (blk_cell BK199.out 1).trans rfl; have hfz10_0 := blk_frozen BK199.out 0; have hfz10_1 := blk_frozen BK199.out 1))
          (try simp only [Act.put, List.setIfInBounds_toArray, List.set_cons_zero, List.set_cons_succ])
          go_cut [26] (fun v26 wc => ∃ (kq : Nat) (x26_7 : Bool), v26 = .bool x26_7 ∧ Aside0 (spec_l1Record.j0 kq l0 a1 a2 x26_7 ((rd_T53 (rd_L6 l0 a1) a2).f0) ((rd_T53 (rd_L6 l0 a1) a2).f1) = some r) ∧ Aside0 (kq ≤ k) ∧ Aside0 (wc.heap[gb199]? = some (.cells #[.int .i64 ((rd_T53 (rd_L6 l0 a1) a2).f0), (.slice A198_1 ((rd_T53 (rd_L6 l0 a1) a2).f1).length c198_1)] 53 (0, 0))) ∧ Aside0 (Below w.heap.size w wc))
          case first =>
            have H := HC8.out
            clear HC8
            replace H := Option.bind_eq_some_iff.mp H
            obtain ⟨t200, A110, H⟩ := H
            replace H : (if t200 = true then (spec_l1Record.j0 k l0 a1 a2 (decide ((((rd_T53 (rd_L6 l0 a1) a2).f1).length : Int) > 3)) ((rd_T53 (rd_L6 l0 a1) a2).f0) ((rd_T53 (rd_L6 l0 a1) a2).f1)) else (spec_l1Record.j0 k l0 a1 a2 true ((rd_T53 (rd_L6 l0 a1) a2).f0) ((rd_T53 (rd_L6 l0 a1) a2).f1))) = some r := H
            have A11 := Aside0.mk A110
            clear A110
            by_cases c12 : t200 = true
            · subst c12
              have H1 : (spec_l1Record.j0 k l0 a1 a2 (decide ((((rd_T53 (rd_L6 l0 a1) a2).f1).length : Int) > 3)) ((rd_T53 (rd_L6 l0 a1) a2).f0) ((rd_T53 (rd_L6 l0 a1) a2).f1)) = some r := by rw [if_pos rfl] at H; exact H
              clear H
              have H := H1
              clear H1
              have H' := Aside0.mk H
              clear H
              have hcz13_0 : w9.cell? ⟨gb199, 0, none⟩ = some (.int .i64 0) := (blk_cell BK199.out 0).trans rfl
              have hcz13_1 : w9.cell? ⟨gb199, 1, none⟩ = some (.slice none 0 0) := (blk_cell BK199.out 1).trans rfl
              have hfz13_0 := blk_frozen BK199.out 0
              have hfz13_1 := blk_frozen BK199.out 1
              go_wp2_with (first | ((with_reducible refine gate_callee (f := 62) rfl ?_); refine goesL_ (some 19) rfl rfl Try.func62 (by kernel_rfl) rfl #[.int .i64 ((rd_T53 (rd_L6 l0 a1) a2).f0), .int .i64 0, .int .i64 15] rfl (by (try simp only [List.map_toArray, List.map_cons, List.map_nil]); first | done | rfl | (simp only [List.length_drop, List.length_take]; rfl)) ?_; (with_reducible refine (spec_l6In.calls ((rd_T53 (rd_L6 l0 a1) a2).f0) 0 15 true _ A11.out).mono ?_); rintro e w' ⟨rfl, ⟨nd, rfl⟩⟩; refine ⟨_, rfl, ?_⟩))
              go_meet
              case rel => exact ⟨_, (decide ((((rd_T53 (rd_L6 l0 a1) a2).f1).length : Int) > 3)), (by first | rfl | (simp; done) | (simp [*]; done)), H', ⟨by first | omega | exact Nat.le_refl _⟩, ⟨by (with_reducible repeat (first | refine blk_drewN ?_ _ | refine blk_drew ?_ | refine blk_alloc ?_ _)); refine blk_put (cs := #[.int .i64 ((rd_T53 (rd_L6 l0 a1) a2).f0), .slice none 0 0]) ?_ 1 _ rfl; (with_reducible repeat (first | refine blk_drewN ?_ _ | refine blk_drew ?_ | refine blk_alloc ?_ _)); refine blk_put (cs := #[.int .i64 0, .slice none 0 0]) ?_ 0 _ rfl; (with_reducible repeat (first | refine blk_drewN ?_ _ | refine blk_drew ?_ | refine blk_alloc ?_ _)); exact BK199.out⟩, ⟨by repeat (first | (with_reducible first | exact HB.out | apply below_alloc | apply pw_below_drewN | apply below_drew1 | refine below_set ?_ GE199.out) | exact HB.out)⟩⟩
            · replace c12 := Bool.eq_false_iff.mpr c12
              subst c12
              have H1 : (spec_l1Record.j0 k l0 a1 a2 true ((rd_T53 (rd_L6 l0 a1) a2).f0) ((rd_T53 (rd_L6 l0 a1) a2).f1)) = some r := by rw [if_neg (show ¬ (false = true) by decide)] at H; exact H
              clear H
              have H := H1
              clear H1
              have H' := Aside0.mk H
              clear H
              have hcz14_0 : w9.cell? ⟨gb199, 0, none⟩ = some (.int .i64 0) := (blk_cell BK199.out 0).trans rfl
              have hcz14_1 : w9.cell? ⟨gb199, 1, none⟩ = some (.slice none 0 0) := (blk_cell BK199.out 1).trans rfl
              have hfz14_0 := blk_frozen BK199.out 0
              have hfz14_1 := blk_frozen BK199.out 1
              go_wp2_with (first | ((with_reducible refine gate_callee (f := 62) rfl ?_); refine goesL_ (some 19) rfl rfl Try.func62 (by kernel_rfl) rfl #[.int .i64 ((rd_T53 (rd_L6 l0 a1) a2).f0), .int .i64 0, .int .i64 15] rfl (by (try simp only [List.map_toArray, List.map_cons, List.map_nil]); first | done | rfl | (simp only [List.length_drop, List.length_take]; rfl)) ?_; (with_reducible refine (spec_l6In.calls ((rd_T53 (rd_L6 l0 a1) a2).f0) 0 15 false _ A11.out).mono ?_); rintro e w' ⟨rfl, ⟨nd, rfl⟩⟩; refine ⟨_, rfl, ?_⟩))
              go_meet
              case rel => exact ⟨_, (true), (by first | rfl | (simp; done) | (simp [*]; done)), H', ⟨by first | omega | exact Nat.le_refl _⟩, ⟨by (with_reducible repeat (first | refine blk_drewN ?_ _ | refine blk_drew ?_ | refine blk_alloc ?_ _)); refine blk_put (cs := #[.int .i64 ((rd_T53 (rd_L6 l0 a1) a2).f0), .slice none 0 0]) ?_ 1 _ rfl; (with_reducible repeat (first | refine blk_drewN ?_ _ | refine blk_drew ?_ | refine blk_alloc ?_ _)); refine blk_put (cs := #[.int .i64 0, .slice none 0 0]) ?_ 0 _ rfl; (with_reducible repeat (first | refine blk_drewN ?_ _ | refine blk_drew ?_ | refine blk_alloc ?_ _)); exact BK199.out⟩, ⟨by repeat (first | (with_reducible first | exact HB.out | apply below_alloc | apply pw_below_drewN | apply below_drew1 | refine below_set ?_ GE199.out) | exact HB.out)⟩⟩
          case rest =>
            clear HC8
            try clear c1
            try clear p1
            try clear q1
            try clear hx1
            try clear p2
            try clear c4
            try clear c4b0
            try clear c5
            try clear c5b0
            try clear c6
            try clear c6b0
            try clear c7
            try clear c7b0
            try clear c12
            try clear hcz10_0
            try clear hcz10_1
            try clear hcz13_0
            try clear hcz13_1
            try clear hcz14_0
            try clear hcz14_1
            try clear hfz10_0
            try clear hfz10_1
            try clear hfz13_0
            try clear hfz13_1
            try clear hfz14_0
            try clear hfz14_1
            try clear hx197_0
            try clear hx198_0
            try clear hx198_1
            try clear p197
            try clear p198
            try clear q197
            try clear q198
            obtain ⟨kq, x26_7, rfl, HA, HJ7, BK199, HB⟩ := hcut
            cases kq with
            | zero => exact absurd HA.out (by simp [spec_l1Record.j0])
            | succ kj7 =>
              have H := HA.out
              clear HA
              simp only [spec_l1Record.j0] at H
              by_cases c15 : x26_7 = true
              · subst c15
                have H1 : (some false) = some r := by rw [if_pos rfl] at H; exact H
                clear H
                have H := H1
                clear H1
                obtain rfl := Option.some.inj H
                go_wp2
                go_ret
                exact ⟨by first | rfl | (simp [errW_none, errW_some] <;> rfl) | (simp [*, errW_none, errW_some] <;> rfl), by repeat (first | (with_reducible first | exact HB.out | apply below_alloc | apply pw_below_drewN | apply below_drew1 | refine below_set ?_ GE199.out) | exact HB.out)⟩
              · replace c15 := Bool.eq_false_iff.mpr c15
                subst c15
                have H1 : (spec_l1Record.l0 kj7 l0 a1 a2 0 ((rd_T53 (rd_L6 l0 a1) a2).f0) ((rd_T53 (rd_L6 l0 a1) a2).f1)) = some r := by rw [if_neg (show ¬ (false = true) by decide)] at H; exact H
                clear H
                have H := H1
                clear H1
                have H' := Aside0.mk H
                clear H
                go_wp2
                go_loopg [8] kj7 (fun kq v8 w' => ∃ (x8_2 : Int), v8 = .int .i64 x8_2 ∧ Aside0 (spec_l1Record.l0 kq l0 a1 a2 x8_2 ((rd_T53 (rd_L6 l0 a1) a2).f0) ((rd_T53 (rd_L6 l0 a1) a2).f1) = some r) ∧ Aside0 (kq ≤ kj7) ∧ Aside0 (w'.heap[gb199]? = some (.cells #[.int .i64 ((rd_T53 (rd_L6 l0 a1) a2).f0), (.slice A198_1 ((rd_T53 (rd_L6 l0 a1) a2).f1).length c198_1)] 53 (0, 0))) ∧ Aside0 (Below w.heap.size w w'))
                case atStart => exact ⟨(0), (by first | rfl | (simp; done) | (simp [*]; done)), H', ⟨Nat.le_refl _⟩, ⟨by (with_reducible repeat (first | refine blk_drewN ?_ _ | refine blk_drew ?_ | refine blk_alloc ?_ _)); exact BK199.out⟩, ⟨by repeat (first | (with_reducible first | exact HB.out | apply below_alloc | apply pw_below_drewN | apply below_drew1 | refine below_set ?_ GE199.out) | exact HB.out)⟩⟩
                case round =>
                  clear H'
                  try clear c1
                  try clear p1
                  try clear q1
                  try clear hx1
                  try clear p2
                  try clear c4
                  try clear c4b0
                  try clear c5
                  try clear c5b0
                  try clear c6
                  try clear c6b0
                  try clear c7
                  try clear c7b0
                  try clear c12
                  try clear c15
                  try clear hcz10_0
                  try clear hcz10_1
                  try clear hcz13_0
                  try clear hcz13_1
                  try clear hcz14_0
                  try clear hcz14_1
                  try clear hfz10_0
                  try clear hfz10_1
                  try clear hfz13_0
                  try clear hfz13_1
                  try clear hfz14_0
                  try clear hfz14_1
                  try clear hx197_0
                  try clear hx198_0
                  try clear hx198_1
                  try clear p1
                  try clear p197
                  try clear p198
                  try clear p2
                  try clear q1
                  try clear q197
                  try clear q198
                  obtain ⟨x8_2, rfl, HA, HK2, BK199, HB⟩ := hrel
                  cases gk with
                  | zero => exact absurd HA.out (by simp [spec_l1Record.l0])
                  | succ k2 =>
                    have H := HA.out
                    clear HA
                    simp only [spec_l1Record.l0] at H
                    by_cases c16 : x8_2 < (((rd_T53 (rd_L6 l0 a1) a2).f1).length : Int)
                    · rw [if_pos c16] at H
                      have c16b0 : decide (x8_2 < (((rd_T53 (rd_L6 l0 a1) a2).f1).length : Int)) = true := decide_eq_true c16
                      clear c16
                      by_cases c17 : 0 ≤ x8_2
                      · rw [if_pos c17] at H
                        have c17b0 : decide (0 ≤ x8_2) = true := decide_eq_true c17
                        clear c17
                        replace H := Option.bind_eq_some_iff.mp H
                        obtain ⟨t202, A180, H⟩ := H
                        replace H : (if t202 = true then ((spec_l1Able.f k2 l0 (rdOf ByteArray.empty ((rd_T53 (rd_L6 l0 a1) a2).f1) x8_2)).bind fun t204 => ((spec_l1Can.f ((rd_T53 (rd_L6 l0 a1) a2).f0) 1).bind fun t205 => (if t205 = true then ((spec_l1Can.f t204 1).bind fun t206 => (if t206 = true then ((spec_l1Can.f ((rd_T53 (rd_L6 l0 a1) a2).f0) 2).bind fun t207 => (if t207 = true then ((spec_l1Can.f t204 2).bind fun t208 => (spec_l1Record.j2 k2 l0 a1 a2 x8_2 t204 (!t208) ((rd_T53 (rd_L6 l0 a1) a2).f0) ((rd_T53 (rd_L6 l0 a1) a2).f1))) else (spec_l1Record.j2 k2 l0 a1 a2 x8_2 t204 false ((rd_T53 (rd_L6 l0 a1) a2).f0) ((rd_T53 (rd_L6 l0 a1) a2).f1)))) else (spec_l1Record.j2 k2 l0 a1 a2 x8_2 t204 true ((rd_T53 (rd_L6 l0 a1) a2).f0) ((rd_T53 (rd_L6 l0 a1) a2).f1)))) else ((spec_l1Can.f ((rd_T53 (rd_L6 l0 a1) a2).f0) 2).bind fun t209 => (if t209 = true then ((spec_l1Can.f t204 2).bind fun t210 => (spec_l1Record.j2 k2 l0 a1 a2 x8_2 t204 (!t210) ((rd_T53 (rd_L6 l0 a1) a2).f0) ((rd_T53 (rd_L6 l0 a1) a2).f1))) else (spec_l1Record.j2 k2 l0 a1 a2 x8_2 t204 false ((rd_T53 (rd_L6 l0 a1) a2).f0) ((rd_T53 (rd_L6 l0 a1) a2).f1))))))) else (some false)) = some r := H
                        have A18 := Aside0.mk A180
                        clear A180
                        by_cases c19 : t202 = true
                        · subst c19
                          have H1 : ((spec_l1Able.f k2 l0 (rdOf ByteArray.empty ((rd_T53 (rd_L6 l0 a1) a2).f1) x8_2)).bind fun t204 => ((spec_l1Can.f ((rd_T53 (rd_L6 l0 a1) a2).f0) 1).bind fun t205 => (if t205 = true then ((spec_l1Can.f t204 1).bind fun t206 => (if t206 = true then ((spec_l1Can.f ((rd_T53 (rd_L6 l0 a1) a2).f0) 2).bind fun t207 => (if t207 = true then ((spec_l1Can.f t204 2).bind fun t208 => (spec_l1Record.j2 k2 l0 a1 a2 x8_2 t204 (!t208) ((rd_T53 (rd_L6 l0 a1) a2).f0) ((rd_T53 (rd_L6 l0 a1) a2).f1))) else (spec_l1Record.j2 k2 l0 a1 a2 x8_2 t204 false ((rd_T53 (rd_L6 l0 a1) a2).f0) ((rd_T53 (rd_L6 l0 a1) a2).f1)))) else (spec_l1Record.j2 k2 l0 a1 a2 x8_2 t204 true ((rd_T53 (rd_L6 l0 a1) a2).f0) ((rd_T53 (rd_L6 l0 a1) a2).f1)))) else ((spec_l1Can.f ((rd_T53 (rd_L6 l0 a1) a2).f0) 2).bind fun t209 => (if t209 = true then ((spec_l1Can.f t204 2).bind fun t210 => (spec_l1Record.j2 k2 l0 a1 a2 x8_2 t204 (!t210) ((rd_T53 (rd_L6 l0 a1) a2).f0) ((rd_T53 (rd_L6 l0 a1) a2).f1))) else (spec_l1Record.j2 k2 l0 a1 a2 x8_2 t204 false ((rd_T53 (rd_L6 l0 a1) a2).f0) ((rd_T53 (rd_L6 l0 a1) a2).f1))))))) = some r := by rw [if_pos rfl] at H; exact H
                          clear H
                          have H := H1
                          clear H1
                          replace H := Option.bind_eq_some_iff.mp H
                          obtain ⟨t204, A200, H⟩ := H
                          replace H : ((spec_l1Can.f ((rd_T53 (rd_L6 l0 a1) a2).f0) 1).bind fun t205 => (if t205 = true then ((spec_l1Can.f t204 1).bind fun t206 => (if t206 = true then ((spec_l1Can.f ((rd_T53 (rd_L6 l0 a1) a2).f0) 2).bind fun t207 => (if t207 = true then ((spec_l1Can.f t204 2).bind fun t208 => (spec_l1Record.j2 k2 l0 a1 a2 x8_2 t204 (!t208) ((rd_T53 (rd_L6 l0 a1) a2).f0) ((rd_T53 (rd_L6 l0 a1) a2).f1))) else (spec_l1Record.j2 k2 l0 a1 a2 x8_2 t204 false ((rd_T53 (rd_L6 l0 a1) a2).f0) ((rd_T53 (rd_L6 l0 a1) a2).f1)))) else (spec_l1Record.j2 k2 l0 a1 a2 x8_2 t204 true ((rd_T53 (rd_L6 l0 a1) a2).f0) ((rd_T53 (rd_L6 l0 a1) a2).f1)))) else ((spec_l1Can.f ((rd_T53 (rd_L6 l0 a1) a2).f0) 2).bind fun t209 => (if t209 = true then ((spec_l1Can.f t204 2).bind fun t210 => (spec_l1Record.j2 k2 l0 a1 a2 x8_2 t204 (!t210) ((rd_T53 (rd_L6 l0 a1) a2).f0) ((rd_T53 (rd_L6 l0 a1) a2).f1))) else (spec_l1Record.j2 k2 l0 a1 a2 x8_2 t204 false ((rd_T53 (rd_L6 l0 a1) a2).f0) ((rd_T53 (rd_L6 l0 a1) a2).f1)))))) = some r := H
                          have A20 := Aside0.mk A200
                          clear A200
                          have HC21 := Aside0.mk H
                          clear H
                          have hcz22_0 : wr.cell? ⟨gb199, 0, none⟩ = some (.int .i64 ((rd_T53 (rd_L6 l0 a1) a2).f0)) := (blk_cell BK199.out 0).trans rfl
                          have hcz22_1 : wr.cell? ⟨gb199, 1, none⟩ = some (.slice A198_1 ((rd_T53 (rd_L6 l0 a1) a2).f1).length c198_1) := (blk_cell BK199.out 1).trans rfl
                          have hfz22_0 := blk_frozen BK199.out 0
                          have hfz22_1 := blk_frozen BK199.out 1
                          have p201 : 0 ≤ (x8_2 : Int) := of_decide_eq_true (by first | (with_reducible assumption) | assumption)
                          have q201 : x8_2 < (((rd_T53 (rd_L6 l0 a1) a2).f1).length : Int) := of_decide_eq_true (by first | (with_reducible assumption) | assumption)
                          obtain ⟨ad201, e201, hx201_0⟩ := Kd.at_string HR198_1.out x8_2 p201 q201
                          cases e201
                          replace hx201_0 := (HB.out.cell (World.block_lt_of_cell? w _ hx201_0)).trans hx201_0
                          replace p201 := eq_true p201
                          replace q201 := eq_true q201
                          go_upto_region 10 with (first | ((with_reducible refine gate_callee (f := 63) rfl ?_); refine goesL_ (some 42) rfl rfl Try.func63 (by kernel_rfl) rfl #[.slice (some ad197) l0.length c0, .int .i64 a1, .int .i64 a2, .string (rdOf ByteArray.empty ((rd_T53 (rd_L6 l0 a1) a2).f1) x8_2)] rfl (by (try simp only [List.map_toArray, List.map_cons, List.map_nil]); first | done | rfl | (simp only [List.length_drop, List.length_take]; rfl)) ?_; (with_reducible refine (spec_l1Field.calls _ _ l0 a1 a2 (rdOf ByteArray.empty ((rd_T53 (rd_L6 l0 a1) a2).f1) x8_2) true _ ?side1 ?side2 A18.out).mono ?_); (case side1 => repeat (first | exact (Kd.C_below HR0.out HB.out) | (with_reducible refine Kd.C_alloc ?_ _) | (with_reducible refine Kd.C_drewN ?_ _) | (with_reducible refine Kd.C_drew ?_))); (case side2 => exact HC0.out); rintro e w' ⟨rfl, ⟨nd, rfl⟩⟩; refine ⟨_, rfl, ?_⟩; have p203 : 0 ≤ (x8_2 : Int) := of_decide_eq_true (by first | (with_reducible assumption) | assumption); have q203 : x8_2 < (((rd_T53 (rd_L6 l0 a1) a2).f1).length : Int) := of_decide_eq_true (by first | (with_reducible assumption) | assumption); obtain ⟨ad203, e203, hx203_0⟩ := Kd.at_string HR198_1.out x8_2 p203 q203; obtain rfl : ad201 = ad203 := (by injection e203); replace hx203_0 := (HB.out.cell (World.block_lt_of_cell? w _ hx203_0)).trans hx203_0; replace p203 := eq_true p203; replace q203 := eq_true q203) | ((with_reducible refine gate_callee (f := 53) rfl ?_); refine goesL_ (some 50) rfl rfl Try.func53 (by kernel_rfl) rfl #[.slice (some ad197) l0.length c0, .string (rdOf ByteArray.empty ((rd_T53 (rd_L6 l0 a1) a2).f1) x8_2)] rfl (by (try simp only [List.map_toArray, List.map_cons, List.map_nil]); first | done | rfl | (simp only [List.length_drop, List.length_take]; rfl)) ?_; (with_reducible refine (spec_l1Able.calls k2 _ _ l0 (rdOf ByteArray.empty ((rd_T53 (rd_L6 l0 a1) a2).f1) x8_2) t204 _ ?side1 ?side2 A20.out).mono ?_); (case side1 => repeat (first | exact (Kd.C_below HR0.out (by repeat (first | (with_reducible first | exact HB.out | apply below_alloc | apply pw_below_drewN | apply below_drew1 | refine below_set ?_ GE199.out) | exact HB.out))) | (with_reducible refine Kd.C_alloc ?_ _) | (with_reducible refine Kd.C_drewN ?_ _) | (with_reducible refine Kd.C_drew ?_))); (case side2 => exact HC0.out); rintro e w' ⟨rfl, ⟨nd, rfl⟩⟩; refine ⟨_, rfl, ?_⟩))
                          (try simp only [Act.put, List.setIfInBounds_toArray, List.set_cons_zero, List.set_cons_succ])
                          go_cut [68] (fun v68 wc => ∃ (kq : Nat) (x68_20 : Bool), v68 = .bool x68_20 ∧ Aside0 (spec_l1Record.j2 kq l0 a1 a2 x8_2 t204 x68_20 ((rd_T53 (rd_L6 l0 a1) a2).f0) ((rd_T53 (rd_L6 l0 a1) a2).f1) = some r) ∧ Aside0 (kq ≤ k2) ∧ Aside0 (wc.heap[gb199]? = some (.cells #[.int .i64 ((rd_T53 (rd_L6 l0 a1) a2).f0), (.slice (some ad201) ((rd_T53 (rd_L6 l0 a1) a2).f1).length c198_1)] 53 (0, 0))) ∧ Aside0 (Below w.heap.size w wc))
                          case first =>
                            have H := HC21.out
                            clear HC21
                            replace H := Option.bind_eq_some_iff.mp H
                            obtain ⟨t205, A230, H⟩ := H
                            replace H : (if t205 = true then ((spec_l1Can.f t204 1).bind fun t206 => (if t206 = true then ((spec_l1Can.f ((rd_T53 (rd_L6 l0 a1) a2).f0) 2).bind fun t207 => (if t207 = true then ((spec_l1Can.f t204 2).bind fun t208 => (spec_l1Record.j2 k2 l0 a1 a2 x8_2 t204 (!t208) ((rd_T53 (rd_L6 l0 a1) a2).f0) ((rd_T53 (rd_L6 l0 a1) a2).f1))) else (spec_l1Record.j2 k2 l0 a1 a2 x8_2 t204 false ((rd_T53 (rd_L6 l0 a1) a2).f0) ((rd_T53 (rd_L6 l0 a1) a2).f1)))) else (spec_l1Record.j2 k2 l0 a1 a2 x8_2 t204 true ((rd_T53 (rd_L6 l0 a1) a2).f0) ((rd_T53 (rd_L6 l0 a1) a2).f1)))) else ((spec_l1Can.f ((rd_T53 (rd_L6 l0 a1) a2).f0) 2).bind fun t209 => (if t209 = true then ((spec_l1Can.f t204 2).bind fun t210 => (spec_l1Record.j2 k2 l0 a1 a2 x8_2 t204 (!t210) ((rd_T53 (rd_L6 l0 a1) a2).f0) ((rd_T53 (rd_L6 l0 a1) a2).f1))) else (spec_l1Record.j2 k2 l0 a1 a2 x8_2 t204 false ((rd_T53 (rd_L6 l0 a1) a2).f0) ((rd_T53 (rd_L6 l0 a1) a2).f1))))) = some r := H
                            have A23 := Aside0.mk A230
                            clear A230
                            by_cases c24 : t205 = true
                            · subst c24
                              have H1 : ((spec_l1Can.f t204 1).bind fun t206 => (if t206 = true then ((spec_l1Can.f ((rd_T53 (rd_L6 l0 a1) a2).f0) 2).bind fun t207 => (if t207 = true then ((spec_l1Can.f t204 2).bind fun t208 => (spec_l1Record.j2 k2 l0 a1 a2 x8_2 t204 (!t208) ((rd_T53 (rd_L6 l0 a1) a2).f0) ((rd_T53 (rd_L6 l0 a1) a2).f1))) else (spec_l1Record.j2 k2 l0 a1 a2 x8_2 t204 false ((rd_T53 (rd_L6 l0 a1) a2).f0) ((rd_T53 (rd_L6 l0 a1) a2).f1)))) else (spec_l1Record.j2 k2 l0 a1 a2 x8_2 t204 true ((rd_T53 (rd_L6 l0 a1) a2).f0) ((rd_T53 (rd_L6 l0 a1) a2).f1)))) = some r := by rw [if_pos rfl] at H; exact H
                              clear H
                              have H := H1
                              clear H1
                              replace H := Option.bind_eq_some_iff.mp H
                              obtain ⟨t206, A250, H⟩ := H
                              replace H : (if t206 = true then ((spec_l1Can.f ((rd_T53 (rd_L6 l0 a1) a2).f0) 2).bind fun t207 => (if t207 = true then ((spec_l1Can.f t204 2).bind fun t208 => (spec_l1Record.j2 k2 l0 a1 a2 x8_2 t204 (!t208) ((rd_T53 (rd_L6 l0 a1) a2).f0) ((rd_T53 (rd_L6 l0 a1) a2).f1))) else (spec_l1Record.j2 k2 l0 a1 a2 x8_2 t204 false ((rd_T53 (rd_L6 l0 a1) a2).f0) ((rd_T53 (rd_L6 l0 a1) a2).f1)))) else (spec_l1Record.j2 k2 l0 a1 a2 x8_2 t204 true ((rd_T53 (rd_L6 l0 a1) a2).f0) ((rd_T53 (rd_L6 l0 a1) a2).f1))) = some r := H
                              have A25 := Aside0.mk A250
                              clear A250
                              by_cases c26 : t206 = true
                              · subst c26
                                have H1 : ((spec_l1Can.f ((rd_T53 (rd_L6 l0 a1) a2).f0) 2).bind fun t207 => (if t207 = true then ((spec_l1Can.f t204 2).bind fun t208 => (spec_l1Record.j2 k2 l0 a1 a2 x8_2 t204 (!t208) ((rd_T53 (rd_L6 l0 a1) a2).f0) ((rd_T53 (rd_L6 l0 a1) a2).f1))) else (spec_l1Record.j2 k2 l0 a1 a2 x8_2 t204 false ((rd_T53 (rd_L6 l0 a1) a2).f0) ((rd_T53 (rd_L6 l0 a1) a2).f1)))) = some r := by rw [if_pos rfl] at H; exact H
                                clear H
                                have H := H1
                                clear H1
                                replace H := Option.bind_eq_some_iff.mp H
                                obtain ⟨t207, A270, H⟩ := H
                                replace H : (if t207 = true then ((spec_l1Can.f t204 2).bind fun t208 => (spec_l1Record.j2 k2 l0 a1 a2 x8_2 t204 (!t208) ((rd_T53 (rd_L6 l0 a1) a2).f0) ((rd_T53 (rd_L6 l0 a1) a2).f1))) else (spec_l1Record.j2 k2 l0 a1 a2 x8_2 t204 false ((rd_T53 (rd_L6 l0 a1) a2).f0) ((rd_T53 (rd_L6 l0 a1) a2).f1))) = some r := H
                                have A27 := Aside0.mk A270
                                clear A270
                                by_cases c28 : t207 = true
                                · subst c28
                                  have H1 : ((spec_l1Can.f t204 2).bind fun t208 => (spec_l1Record.j2 k2 l0 a1 a2 x8_2 t204 (!t208) ((rd_T53 (rd_L6 l0 a1) a2).f0) ((rd_T53 (rd_L6 l0 a1) a2).f1))) = some r := by rw [if_pos rfl] at H; exact H
                                  clear H
                                  have H := H1
                                  clear H1
                                  replace H := Option.bind_eq_some_iff.mp H
                                  obtain ⟨t208, A290, H⟩ := H
                                  replace H : (spec_l1Record.j2 k2 l0 a1 a2 x8_2 t204 (!t208) ((rd_T53 (rd_L6 l0 a1) a2).f0) ((rd_T53 (rd_L6 l0 a1) a2).f1)) = some r := H
                                  have A29 := Aside0.mk A290
                                  clear A290
                                  have H' := Aside0.mk H
                                  clear H
                                  have hcz30_0 : wr.cell? ⟨gb199, 0, none⟩ = some (.int .i64 ((rd_T53 (rd_L6 l0 a1) a2).f0)) := (blk_cell BK199.out 0).trans rfl
                                  have hcz30_1 : wr.cell? ⟨gb199, 1, none⟩ = some (.slice (some ad201) ((rd_T53 (rd_L6 l0 a1) a2).f1).length c198_1) := (blk_cell BK199.out 1).trans rfl
                                  have hfz30_0 := blk_frozen BK199.out 0
                                  have hfz30_1 := blk_frozen BK199.out 1
                                  go_wp2_with (first | ((with_reducible refine gate_callee (f := 64) rfl ?_); refine goesL_ (some 53) rfl rfl Try.func64 (by kernel_rfl) rfl #[.int .i64 ((rd_T53 (rd_L6 l0 a1) a2).f0), .int .i64 1] rfl (by (try simp only [List.map_toArray, List.map_cons, List.map_nil]); first | done | rfl | (simp only [List.length_drop, List.length_take]; rfl)) ?_; (with_reducible refine (spec_l1Can.calls ((rd_T53 (rd_L6 l0 a1) a2).f0) 1 true _ A23.out).mono ?_); rintro e w' ⟨rfl, ⟨nd, rfl⟩⟩; refine ⟨_, rfl, ?_⟩) | (go_at_call 64; (with_reducible refine (spec_l1Can.calls t204 1 true _ A25.out).mono ?_); rintro e w' ⟨rfl, ⟨nd, rfl⟩⟩) | (go_at_call 64; (with_reducible refine (spec_l1Can.calls ((rd_T53 (rd_L6 l0 a1) a2).f0) 2 true _ A27.out).mono ?_); rintro e w' ⟨rfl, ⟨nd, rfl⟩⟩) | (go_at_call 64; (with_reducible refine (spec_l1Can.calls t204 2 t208 _ A29.out).mono ?_); rintro e w' ⟨rfl, ⟨nd, rfl⟩⟩))
                                  go_meet
                                  case rel => exact ⟨_, (!t208), (by first | rfl | (simp; done) | (simp [*]; done)), H', ⟨by have := HJ7.out; have := HK2.out; first | omega | exact Nat.le_refl _⟩, ⟨by (with_reducible repeat (first | refine blk_drewN ?_ _ | refine blk_drew ?_ | refine blk_alloc ?_ _)); exact BK199.out⟩, ⟨by repeat (first | (with_reducible first | exact HB.out | apply below_alloc | apply pw_below_drewN | apply below_drew1 | refine below_set ?_ GE199.out) | exact HB.out)⟩⟩
                                · replace c28 := Bool.eq_false_iff.mpr c28
                                  subst c28
                                  have H1 : (spec_l1Record.j2 k2 l0 a1 a2 x8_2 t204 false ((rd_T53 (rd_L6 l0 a1) a2).f0) ((rd_T53 (rd_L6 l0 a1) a2).f1)) = some r := by rw [if_neg (show ¬ (false = true) by decide)] at H; exact H
                                  clear H
                                  have H := H1
                                  clear H1
                                  have H' := Aside0.mk H
                                  clear H
                                  have hcz31_0 : wr.cell? ⟨gb199, 0, none⟩ = some (.int .i64 ((rd_T53 (rd_L6 l0 a1) a2).f0)) := (blk_cell BK199.out 0).trans rfl
                                  have hcz31_1 : wr.cell? ⟨gb199, 1, none⟩ = some (.slice (some ad201) ((rd_T53 (rd_L6 l0 a1) a2).f1).length c198_1) := (blk_cell BK199.out 1).trans rfl
                                  have hfz31_0 := blk_frozen BK199.out 0
                                  have hfz31_1 := blk_frozen BK199.out 1
                                  go_wp2_with (first | ((with_reducible refine gate_callee (f := 64) rfl ?_); refine goesL_ (some 53) rfl rfl Try.func64 (by kernel_rfl) rfl #[.int .i64 ((rd_T53 (rd_L6 l0 a1) a2).f0), .int .i64 1] rfl (by (try simp only [List.map_toArray, List.map_cons, List.map_nil]); first | done | rfl | (simp only [List.length_drop, List.length_take]; rfl)) ?_; (with_reducible refine (spec_l1Can.calls ((rd_T53 (rd_L6 l0 a1) a2).f0) 1 true _ A23.out).mono ?_); rintro e w' ⟨rfl, ⟨nd, rfl⟩⟩; refine ⟨_, rfl, ?_⟩) | (go_at_call 64; (with_reducible refine (spec_l1Can.calls t204 1 true _ A25.out).mono ?_); rintro e w' ⟨rfl, ⟨nd, rfl⟩⟩) | (go_at_call 64; (with_reducible refine (spec_l1Can.calls ((rd_T53 (rd_L6 l0 a1) a2).f0) 2 false _ A27.out).mono ?_); rintro e w' ⟨rfl, ⟨nd, rfl⟩⟩))
                                  go_meet
                                  case rel => exact ⟨_, (false), (by first | rfl | (simp; done) | (simp [*]; done)), H', ⟨by have := HJ7.out; have := HK2.out; first | omega | exact Nat.le_refl _⟩, ⟨by (with_reducible repeat (first | refine blk_drewN ?_ _ | refine blk_drew ?_ | refine blk_alloc ?_ _)); exact BK199.out⟩, ⟨by repeat (first | (with_reducible first | exact HB.out | apply below_alloc | apply pw_below_drewN | apply below_drew1 | refine below_set ?_ GE199.out) | exact HB.out)⟩⟩
                              · replace c26 := Bool.eq_false_iff.mpr c26
                                subst c26
                                have H1 : (spec_l1Record.j2 k2 l0 a1 a2 x8_2 t204 true ((rd_T53 (rd_L6 l0 a1) a2).f0) ((rd_T53 (rd_L6 l0 a1) a2).f1)) = some r := by rw [if_neg (show ¬ (false = true) by decide)] at H; exact H
                                clear H
                                have H := H1
                                clear H1
                                have H' := Aside0.mk H
                                clear H
                                have hcz32_0 : wr.cell? ⟨gb199, 0, none⟩ = some (.int .i64 ((rd_T53 (rd_L6 l0 a1) a2).f0)) := (blk_cell BK199.out 0).trans rfl
                                have hcz32_1 : wr.cell? ⟨gb199, 1, none⟩ = some (.slice (some ad201) ((rd_T53 (rd_L6 l0 a1) a2).f1).length c198_1) := (blk_cell BK199.out 1).trans rfl
                                have hfz32_0 := blk_frozen BK199.out 0
                                have hfz32_1 := blk_frozen BK199.out 1
                                go_wp2_with (first | ((with_reducible refine gate_callee (f := 64) rfl ?_); refine goesL_ (some 53) rfl rfl Try.func64 (by kernel_rfl) rfl #[.int .i64 ((rd_T53 (rd_L6 l0 a1) a2).f0), .int .i64 1] rfl (by (try simp only [List.map_toArray, List.map_cons, List.map_nil]); first | done | rfl | (simp only [List.length_drop, List.length_take]; rfl)) ?_; (with_reducible refine (spec_l1Can.calls ((rd_T53 (rd_L6 l0 a1) a2).f0) 1 true _ A23.out).mono ?_); rintro e w' ⟨rfl, ⟨nd, rfl⟩⟩; refine ⟨_, rfl, ?_⟩) | (go_at_call 64; (with_reducible refine (spec_l1Can.calls t204 1 false _ A25.out).mono ?_); rintro e w' ⟨rfl, ⟨nd, rfl⟩⟩))
                                go_meet
                                case rel => exact ⟨_, (true), (by first | rfl | (simp; done) | (simp [*]; done)), H', ⟨by have := HJ7.out; have := HK2.out; first | omega | exact Nat.le_refl _⟩, ⟨by (with_reducible repeat (first | refine blk_drewN ?_ _ | refine blk_drew ?_ | refine blk_alloc ?_ _)); exact BK199.out⟩, ⟨by repeat (first | (with_reducible first | exact HB.out | apply below_alloc | apply pw_below_drewN | apply below_drew1 | refine below_set ?_ GE199.out) | exact HB.out)⟩⟩
                            · replace c24 := Bool.eq_false_iff.mpr c24
                              subst c24
                              have H1 : ((spec_l1Can.f ((rd_T53 (rd_L6 l0 a1) a2).f0) 2).bind fun t209 => (if t209 = true then ((spec_l1Can.f t204 2).bind fun t210 => (spec_l1Record.j2 k2 l0 a1 a2 x8_2 t204 (!t210) ((rd_T53 (rd_L6 l0 a1) a2).f0) ((rd_T53 (rd_L6 l0 a1) a2).f1))) else (spec_l1Record.j2 k2 l0 a1 a2 x8_2 t204 false ((rd_T53 (rd_L6 l0 a1) a2).f0) ((rd_T53 (rd_L6 l0 a1) a2).f1)))) = some r := by rw [if_neg (show ¬ (false = true) by decide)] at H; exact H
                              clear H
                              have H := H1
                              clear H1
                              replace H := Option.bind_eq_some_iff.mp H
                              obtain ⟨t209, A330, H⟩ := H
                              replace H : (if t209 = true then ((spec_l1Can.f t204 2).bind fun t210 => (spec_l1Record.j2 k2 l0 a1 a2 x8_2 t204 (!t210) ((rd_T53 (rd_L6 l0 a1) a2).f0) ((rd_T53 (rd_L6 l0 a1) a2).f1))) else (spec_l1Record.j2 k2 l0 a1 a2 x8_2 t204 false ((rd_T53 (rd_L6 l0 a1) a2).f0) ((rd_T53 (rd_L6 l0 a1) a2).f1))) = some r := H
                              have A33 := Aside0.mk A330
                              clear A330
                              by_cases c34 : t209 = true
                              · subst c34
                                have H1 : ((spec_l1Can.f t204 2).bind fun t210 => (spec_l1Record.j2 k2 l0 a1 a2 x8_2 t204 (!t210) ((rd_T53 (rd_L6 l0 a1) a2).f0) ((rd_T53 (rd_L6 l0 a1) a2).f1))) = some r := by rw [if_pos rfl] at H; exact H
                                clear H
                                have H := H1
                                clear H1
                                replace H := Option.bind_eq_some_iff.mp H
                                obtain ⟨t210, A350, H⟩ := H
                                replace H : (spec_l1Record.j2 k2 l0 a1 a2 x8_2 t204 (!t210) ((rd_T53 (rd_L6 l0 a1) a2).f0) ((rd_T53 (rd_L6 l0 a1) a2).f1)) = some r := H
                                have A35 := Aside0.mk A350
                                clear A350
                                have H' := Aside0.mk H
                                clear H
                                have hcz36_0 : wr.cell? ⟨gb199, 0, none⟩ = some (.int .i64 ((rd_T53 (rd_L6 l0 a1) a2).f0)) := (blk_cell BK199.out 0).trans rfl
                                have hcz36_1 : wr.cell? ⟨gb199, 1, none⟩ = some (.slice (some ad201) ((rd_T53 (rd_L6 l0 a1) a2).f1).length c198_1) := (blk_cell BK199.out 1).trans rfl
                                have hfz36_0 := blk_frozen BK199.out 0
                                have hfz36_1 := blk_frozen BK199.out 1
                                go_wp2_with (first | ((with_reducible refine gate_callee (f := 64) rfl ?_); refine goesL_ (some 53) rfl rfl Try.func64 (by kernel_rfl) rfl #[.int .i64 ((rd_T53 (rd_L6 l0 a1) a2).f0), .int .i64 1] rfl (by (try simp only [List.map_toArray, List.map_cons, List.map_nil]); first | done | rfl | (simp only [List.length_drop, List.length_take]; rfl)) ?_; (with_reducible refine (spec_l1Can.calls ((rd_T53 (rd_L6 l0 a1) a2).f0) 1 false _ A23.out).mono ?_); rintro e w' ⟨rfl, ⟨nd, rfl⟩⟩; refine ⟨_, rfl, ?_⟩) | (go_at_call 64; (with_reducible refine (spec_l1Can.calls ((rd_T53 (rd_L6 l0 a1) a2).f0) 2 true _ A33.out).mono ?_); rintro e w' ⟨rfl, ⟨nd, rfl⟩⟩) | (go_at_call 64; (with_reducible refine (spec_l1Can.calls t204 2 t210 _ A35.out).mono ?_); rintro e w' ⟨rfl, ⟨nd, rfl⟩⟩))
                                go_meet
                                case rel => exact ⟨_, (!t210), (by first | rfl | (simp; done) | (simp [*]; done)), H', ⟨by have := HJ7.out; have := HK2.out; first | omega | exact Nat.le_refl _⟩, ⟨by (with_reducible repeat (first | refine blk_drewN ?_ _ | refine blk_drew ?_ | refine blk_alloc ?_ _)); exact BK199.out⟩, ⟨by repeat (first | (with_reducible first | exact HB.out | apply below_alloc | apply pw_below_drewN | apply below_drew1 | refine below_set ?_ GE199.out) | exact HB.out)⟩⟩
                              · replace c34 := Bool.eq_false_iff.mpr c34
                                subst c34
                                have H1 : (spec_l1Record.j2 k2 l0 a1 a2 x8_2 t204 false ((rd_T53 (rd_L6 l0 a1) a2).f0) ((rd_T53 (rd_L6 l0 a1) a2).f1)) = some r := by rw [if_neg (show ¬ (false = true) by decide)] at H; exact H
                                clear H
                                have H := H1
                                clear H1
                                have H' := Aside0.mk H
                                clear H
                                have hcz37_0 : wr.cell? ⟨gb199, 0, none⟩ = some (.int .i64 ((rd_T53 (rd_L6 l0 a1) a2).f0)) := (blk_cell BK199.out 0).trans rfl
                                have hcz37_1 : wr.cell? ⟨gb199, 1, none⟩ = some (.slice (some ad201) ((rd_T53 (rd_L6 l0 a1) a2).f1).length c198_1) := (blk_cell BK199.out 1).trans rfl
                                have hfz37_0 := blk_frozen BK199.out 0
                                have hfz37_1 := blk_frozen BK199.out 1
                                go_wp2_with (first | ((with_reducible refine gate_callee (f := 64) rfl ?_); refine goesL_ (some 53) rfl rfl Try.func64 (by kernel_rfl) rfl #[.int .i64 ((rd_T53 (rd_L6 l0 a1) a2).f0), .int .i64 1] rfl (by (try simp only [List.map_toArray, List.map_cons, List.map_nil]); first | done | rfl | (simp only [List.length_drop, List.length_take]; rfl)) ?_; (with_reducible refine (spec_l1Can.calls ((rd_T53 (rd_L6 l0 a1) a2).f0) 1 false _ A23.out).mono ?_); rintro e w' ⟨rfl, ⟨nd, rfl⟩⟩; refine ⟨_, rfl, ?_⟩) | (go_at_call 64; (with_reducible refine (spec_l1Can.calls ((rd_T53 (rd_L6 l0 a1) a2).f0) 2 false _ A33.out).mono ?_); rintro e w' ⟨rfl, ⟨nd, rfl⟩⟩))
                                go_meet
                                case rel => exact ⟨_, (false), (by first | rfl | (simp; done) | (simp [*]; done)), H', ⟨by have := HJ7.out; have := HK2.out; first | omega | exact Nat.le_refl _⟩, ⟨by (with_reducible repeat (first | refine blk_drewN ?_ _ | refine blk_drew ?_ | refine blk_alloc ?_ _)); exact BK199.out⟩, ⟨by repeat (first | (with_reducible first | exact HB.out | apply below_alloc | apply pw_below_drewN | apply below_drew1 | refine below_set ?_ GE199.out) | exact HB.out)⟩⟩
                          case rest =>
                            clear HC21
                            try clear c1
                            try clear p1
                            try clear q1
                            try clear hx1
                            try clear c2
                            try clear p2
                            try clear q2
                            try clear hx2
                            try clear c3
                            try clear c4
                            try clear c4b0
                            try clear c5
                            try clear c5b0
                            try clear c6
                            try clear c6b0
                            try clear c7
                            try clear c7b0
                            try clear c12
                            try clear c15
                            try clear c16
                            try clear c16b0
                            try clear c17
                            try clear c17b0
                            try clear c19
                            try clear p19
                            try clear q19
                            try clear hx19
                            try clear p20
                            try clear q20
                            try clear hx20
                            try clear c24
                            try clear c26
                            try clear c28
                            try clear c34
                            try clear hcz10_0
                            try clear hcz10_1
                            try clear hcz13_0
                            try clear hcz13_1
                            try clear hcz14_0
                            try clear hcz14_1
                            try clear hcz22_0
                            try clear hcz22_1
                            try clear hcz30_0
                            try clear hcz30_1
                            try clear hcz31_0
                            try clear hcz31_1
                            try clear hcz32_0
                            try clear hcz32_1
                            try clear hcz36_0
                            try clear hcz36_1
                            try clear hcz37_0
                            try clear hcz37_1
                            try clear hfz10_0
                            try clear hfz10_1
                            try clear hfz13_0
                            try clear hfz13_1
                            try clear hfz14_0
                            try clear hfz14_1
                            try clear hfz22_0
                            try clear hfz22_1
                            try clear hfz30_0
                            try clear hfz30_1
                            try clear hfz31_0
                            try clear hfz31_1
                            try clear hfz32_0
                            try clear hfz32_1
                            try clear hfz36_0
                            try clear hfz36_1
                            try clear hfz37_0
                            try clear hfz37_1
                            try clear hx197_0
                            try clear hx198_0
                            try clear hx198_1
                            try clear hx201_0
                            try clear hx203_0
                            try clear p1
                            try clear p197
                            try clear p198
                            try clear p2
                            try clear p201
                            try clear p203
                            try clear q1
                            try clear q197
                            try clear q198
                            try clear q201
                            try clear q203
                            obtain ⟨kq, x68_20, rfl, HA, HJ20, BK199, HB⟩ := hcut
                            cases kq with
                            | zero => exact absurd HA.out (by simp [spec_l1Record.j2])
                            | succ kj20 =>
                              have H := HA.out
                              clear HA
                              simp only [spec_l1Record.j2] at H
                              by_cases c38 : x68_20 = true
                              · subst c38
                                have H1 : (some false) = some r := by rw [if_pos rfl] at H; exact H
                                clear H
                                have H := H1
                                clear H1
                                obtain rfl := Option.some.inj H
                                go_wp2
                                go_ret
                                exact ⟨by first | rfl | (simp [errW_none, errW_some] <;> rfl) | (simp [*, errW_none, errW_some] <;> rfl), by repeat (first | (with_reducible first | exact HB.out | apply below_alloc | apply pw_below_drewN | apply below_drew1 | refine below_set ?_ GE199.out) | exact HB.out)⟩
                              · replace c38 := Bool.eq_false_iff.mpr c38
                                subst c38
                                have H1 : (if ((rd_T53 (rd_L6 l0 a1) a2).f0) ≥ 4 then ((spec_l1Can.f t204 4).bind fun t211 => (if t211 = true then (spec_l1Record.l0 kj20 l0 a1 a2 (wrap64 (x8_2 + 1)) ((rd_T53 (rd_L6 l0 a1) a2).f0) ((rd_T53 (rd_L6 l0 a1) a2).f1)) else (some false))) else (spec_l1Record.l0 kj20 l0 a1 a2 (wrap64 (x8_2 + 1)) ((rd_T53 (rd_L6 l0 a1) a2).f0) ((rd_T53 (rd_L6 l0 a1) a2).f1))) = some r := by rw [if_neg (show ¬ (false = true) by decide)] at H; exact H
                                clear H
                                have H := H1
                                clear H1
                                by_cases c39 : ((rd_T53 (rd_L6 l0 a1) a2).f0) ≥ 4
                                · rw [if_pos c39] at H
                                  have c39b0 : decide (4 ≤ ((rd_T53 (rd_L6 l0 a1) a2).f0)) = true := decide_eq_true c39
                                  clear c39
                                  replace H := Option.bind_eq_some_iff.mp H
                                  obtain ⟨t211, A400, H⟩ := H
                                  replace H : (if t211 = true then (spec_l1Record.l0 kj20 l0 a1 a2 (wrap64 (x8_2 + 1)) ((rd_T53 (rd_L6 l0 a1) a2).f0) ((rd_T53 (rd_L6 l0 a1) a2).f1)) else (some false)) = some r := H
                                  have A40 := Aside0.mk A400
                                  clear A400
                                  by_cases c41 : t211 = true
                                  · subst c41
                                    have H1 : (spec_l1Record.l0 kj20 l0 a1 a2 (wrap64 (x8_2 + 1)) ((rd_T53 (rd_L6 l0 a1) a2).f0) ((rd_T53 (rd_L6 l0 a1) a2).f1)) = some r := by rw [if_pos rfl] at H; exact H
                                    clear H
                                    have H := H1
                                    clear H1
                                    have H' := Aside0.mk H
                                    clear H
                                    have hcz42_0 : wc.cell? ⟨gb199, 0, none⟩ = some (.int .i64 ((rd_T53 (rd_L6 l0 a1) a2).f0)) := (blk_cell BK199.out 0).trans rfl
                                    have hcz42_1 : wc.cell? ⟨gb199, 1, none⟩ = some (.slice (some ad201) ((rd_T53 (rd_L6 l0 a1) a2).f1).length c198_1) := (blk_cell BK199.out 1).trans rfl
                                    have hfz42_0 := blk_frozen BK199.out 0
                                    have hfz42_1 := blk_frozen BK199.out 1
                                    go_wp2_with (first | (go_at_call 64; (with_reducible refine (spec_l1Can.calls t204 4 true _ A40.out).mono ?_); rintro e w' ⟨rfl, ⟨nd, rfl⟩⟩))
                                    go_roundg kj20
                                    case measure => have := HJ7.out; have := HK2.out; have := HJ20.out; omega
                                    case rel => exact ⟨(wrap64 (x8_2 + 1)), (by first | rfl | (simp; done) | (simp [*]; done)), H', ⟨by have := HJ7.out; have := HK2.out; have := HJ20.out; omega⟩, ⟨by (with_reducible repeat (first | refine blk_drewN ?_ _ | refine blk_drew ?_ | refine blk_alloc ?_ _)); exact BK199.out⟩, ⟨by repeat (first | (with_reducible first | exact HB.out | apply below_alloc | apply pw_below_drewN | apply below_drew1 | refine below_set ?_ GE199.out) | exact HB.out)⟩⟩
                                  · replace c41 := Bool.eq_false_iff.mpr c41
                                    subst c41
                                    have H1 : (some false) = some r := by rw [if_neg (show ¬ (false = true) by decide)] at H; exact H
                                    clear H
                                    have H := H1
                                    clear H1
                                    obtain rfl := Option.some.inj H
                                    have hcz43_0 : wc.cell? ⟨gb199, 0, none⟩ = some (.int .i64 ((rd_T53 (rd_L6 l0 a1) a2).f0)) := (blk_cell BK199.out 0).trans rfl
                                    have hcz43_1 : wc.cell? ⟨gb199, 1, none⟩ = some (.slice (some ad201) ((rd_T53 (rd_L6 l0 a1) a2).f1).length c198_1) := (blk_cell BK199.out 1).trans rfl
                                    have hfz43_0 := blk_frozen BK199.out 0
                                    have hfz43_1 := blk_frozen BK199.out 1
                                    go_wp2_with (first | (go_at_call 64; (with_reducible refine (spec_l1Can.calls t204 4 false _ A40.out).mono ?_); rintro e w' ⟨rfl, ⟨nd, rfl⟩⟩))
                                    go_ret
                                    exact ⟨by first | rfl | (simp [errW_none, errW_some] <;> rfl) | (simp [*, errW_none, errW_some] <;> rfl), by repeat (first | (with_reducible first | exact HB.out | apply below_alloc | apply pw_below_drewN | apply below_drew1 | refine below_set ?_ GE199.out) | exact HB.out)⟩
                                · rw [if_neg c39] at H
                                  have c39b0 : decide (4 ≤ ((rd_T53 (rd_L6 l0 a1) a2).f0)) = false := decide_eq_false c39
                                  clear c39
                                  have H' := Aside0.mk H
                                  clear H
                                  have hcz44_0 : wc.cell? ⟨gb199, 0, none⟩ = some (.int .i64 ((rd_T53 (rd_L6 l0 a1) a2).f0)) := (blk_cell BK199.out 0).trans rfl
                                  have hcz44_1 : wc.cell? ⟨gb199, 1, none⟩ = some (.slice (some ad201) ((rd_T53 (rd_L6 l0 a1) a2).f1).length c198_1) := (blk_cell BK199.out 1).trans rfl
                                  have hfz44_0 := blk_frozen BK199.out 0
                                  have hfz44_1 := blk_frozen BK199.out 1
                                  go_wp2
                                  go_roundg kj20
                                  case measure => have := HJ7.out; have := HK2.out; have := HJ20.out; omega
                                  case rel => exact ⟨(wrap64 (x8_2 + 1)), (by first | rfl | (simp; done) | (simp [*]; done)), H', ⟨by have := HJ7.out; have := HK2.out; have := HJ20.out; omega⟩, ⟨by (with_reducible repeat (first | refine blk_drewN ?_ _ | refine blk_drew ?_ | refine blk_alloc ?_ _)); exact BK199.out⟩, ⟨by repeat (first | (with_reducible first | exact HB.out | apply below_alloc | apply pw_below_drewN | apply below_drew1 | refine below_set ?_ GE199.out) | exact HB.out)⟩⟩
                        · replace c19 := Bool.eq_false_iff.mpr c19
                          subst c19
                          have H1 : (some false) = some r := by rw [if_neg (show ¬ (false = true) by decide)] at H; exact H
                          clear H
                          have H := H1
                          clear H1
                          obtain rfl := Option.some.inj H
                          have hcz45_0 : wr.cell? ⟨gb199, 0, none⟩ = some (.int .i64 ((rd_T53 (rd_L6 l0 a1) a2).f0)) := (blk_cell BK199.out 0).trans rfl
                          have hcz45_1 : wr.cell? ⟨gb199, 1, none⟩ = some (.slice A198_1 ((rd_T53 (rd_L6 l0 a1) a2).f1).length c198_1) := (blk_cell BK199.out 1).trans rfl
                          have hfz45_0 := blk_frozen BK199.out 0
                          have hfz45_1 := blk_frozen BK199.out 1
                          have p201 : 0 ≤ (x8_2 : Int) := of_decide_eq_true (by first | (with_reducible assumption) | assumption)
                          have q201 : x8_2 < (((rd_T53 (rd_L6 l0 a1) a2).f1).length : Int) := of_decide_eq_true (by first | (with_reducible assumption) | assumption)
                          obtain ⟨ad201, e201, hx201_0⟩ := Kd.at_string HR198_1.out x8_2 p201 q201
                          cases e201
                          replace hx201_0 := (HB.out.cell (World.block_lt_of_cell? w _ hx201_0)).trans hx201_0
                          replace p201 := eq_true p201
                          replace q201 := eq_true q201
                          go_wp2_with (first | ((with_reducible refine gate_callee (f := 63) rfl ?_); refine goesL_ (some 42) rfl rfl Try.func63 (by kernel_rfl) rfl #[.slice (some ad197) l0.length c0, .int .i64 a1, .int .i64 a2, .string (rdOf ByteArray.empty ((rd_T53 (rd_L6 l0 a1) a2).f1) x8_2)] rfl (by (try simp only [List.map_toArray, List.map_cons, List.map_nil]); first | done | rfl | (simp only [List.length_drop, List.length_take]; rfl)) ?_; (with_reducible refine (spec_l1Field.calls _ _ l0 a1 a2 (rdOf ByteArray.empty ((rd_T53 (rd_L6 l0 a1) a2).f1) x8_2) false _ ?side1 ?side2 A18.out).mono ?_); (case side1 => repeat (first | exact (Kd.C_below HR0.out HB.out) | (with_reducible refine Kd.C_alloc ?_ _) | (with_reducible refine Kd.C_drewN ?_ _) | (with_reducible refine Kd.C_drew ?_))); (case side2 => exact HC0.out); rintro e w' ⟨rfl, ⟨nd, rfl⟩⟩; refine ⟨_, rfl, ?_⟩))
                          go_ret
                          exact ⟨by first | rfl | (simp [errW_none, errW_some] <;> rfl) | (simp [*, errW_none, errW_some] <;> rfl), by repeat (first | (with_reducible first | exact HB.out | apply below_alloc | apply pw_below_drewN | apply below_drew1 | refine below_set ?_ GE199.out) | exact HB.out)⟩
                      · rw [if_neg c17] at H
                        exact absurd H (by simp)
                    · rw [if_neg c16] at H
                      have c16b0 : decide (x8_2 < (((rd_T53 (rd_L6 l0 a1) a2).f1).length : Int)) = false := decide_eq_false c16
                      clear c16
                      obtain rfl := Option.some.inj H
                      have hcz46_0 : wr.cell? ⟨gb199, 0, none⟩ = some (.int .i64 ((rd_T53 (rd_L6 l0 a1) a2).f0)) := (blk_cell BK199.out 0).trans rfl
                      have hcz46_1 : wr.cell? ⟨gb199, 1, none⟩ = some (.slice A198_1 ((rd_T53 (rd_L6 l0 a1) a2).f1).length c198_1) := (blk_cell BK199.out 1).trans rfl
                      have hfz46_0 := blk_frozen BK199.out 0
                      have hfz46_1 := blk_frozen BK199.out 1
                      go_wp2
                      go_ret
                      exact ⟨by first | rfl | (simp [errW_none, errW_some] <;> rfl) | (simp [*, errW_none, errW_some] <;> rfl), by repeat (first | (with_reducible first | exact HB.out | apply below_alloc | apply pw_below_drewN | apply below_drew1 | refine below_set ?_ GE199.out) | exact HB.out)⟩
        · rw [if_neg c7] at H
          exact absurd H (by simp)
      · rw [if_neg c6] at H
        exact absurd H (by simp)
    · rw [if_neg c5] at H
      exact absurd H (by simp)
  · rw [if_neg c4] at H
    exact absurd H (by simp)

end Go.Proofs.Yticolaohngmcfaa.OFnExactTypeOk
