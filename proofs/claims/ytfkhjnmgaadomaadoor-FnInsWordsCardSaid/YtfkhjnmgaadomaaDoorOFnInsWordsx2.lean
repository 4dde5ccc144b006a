-- Laid by a program of this session (wip/myprint.py): the kit's print of the functions, contracts of our own among them.
import Derived.Test.YtfkhjnmgaadomaaDoorOFnInsWordsx0
import Derived.Test.YtfkhjnmgaadomaaDoorOFnInsWordsx1
namespace Go.Proofs.YtfkhjnmgaadomaaDoor.OFnInsWords
open Go.RowKit Go.Proofs.YtfkhjnmgaadomaaDoorW.PrintWords Go.Proofs.YtfkhjnmgaadomaaDoorW.PrintLast Go.Proofs.YtfkhjnmgaadomaaDoorW.PrintMore
attribute [local go_sem] max2_int min2_int max_two min_two max_three min_three max_four min_four   -- for this text's walks alone
set_option linter.unusedVariables false
set_option linter.unusedSimpArgs false

/-! ### laws_hlTexts: function 17 -/
def laws_hlTexts.l0 : Nat → List ByteArray → List ByteArray → Int → Option (Bool)
 | 0,_,_,_ => none
 | k + 1,x0,x1,x5 => if x5 < (x0.length : Int) then (if 0 ≤ x5 then (if x5 < (x1.length : Int) then (if (rdOf ByteArray.empty x0 x5).toList = (rdOf ByteArray.empty x1 x5).toList then (laws_hlTexts.l0 k x0 x1 (wrap64 (x5 + 1))) else (some false)) else (none)) else (none)) else (some true)
def laws_hlTexts.f (k : Nat) (l0 : List ByteArray) (l1 : List ByteArray) : Option (Bool):=if (l0.length : Int) = (l1.length : Int) then (laws_hlTexts.l0 k l0 l1 0) else (some false)
theorem laws_hlTexts.mono_l : ∀ k,(∀ y0 y1 y2,LeO (laws_hlTexts.l0 k y0 y1 y2) (laws_hlTexts.l0 (k + 1) y0 y1 y2))
 | 0 => fun _ _ _ r h => by simp [laws_hlTexts.l0] at h
 | k + 1 => by
  have ih0:=laws_hlTexts.mono_l k
  ·intro y0 y1 y2
   unfold laws_hlTexts.l0
   repeat' first
   | (with_reducible exact ih0 _ _ _)
   | (with_reducible exact LeO.refl _)
   | (with_reducible exact LeO.none _)
   | (with_reducible refine LeO.ite ?_ ?_)
   | (with_reducible refine LeO.bind ?_ (fun _ => ?_))
   | exact ih0 _ _ _
   | exact LeO.none _
   | refine LeO.ite ?_ ?_
   | refine LeO.bind ?_ (fun _ => ?_)
theorem laws_hlTexts.mono : ∀ a0 a1 k,LeO (laws_hlTexts.f k a0 a1) (laws_hlTexts.f (k + 1) a0 a1):=by
 intro a0 a1 k
 have ih0:=laws_hlTexts.mono_l k
 unfold laws_hlTexts.f
 repeat' first
   | (with_reducible exact ih0 _ _ _)
   | (with_reducible exact LeO.refl _)
   | (with_reducible exact LeO.none _)
   | (with_reducible refine LeO.ite ?_ ?_)
   | (with_reducible refine LeO.bind ?_ (fun _ => ?_))
   | exact ih0 _ _ _
   | exact LeO.none _
   | refine LeO.ite ?_ ?_
   | refine LeO.bind ?_ (fun _ => ?_)
set_option maxHeartbeats 8000000 in
set_option maxRecDepth 100000 in
theorem laws_hlTexts.calls (k : Nat) (A0 : Option Addr) (c0 : Nat) (l0 : List ByteArray) (A1 : Option Addr) (c1 : Nat) (l1 : List ByteArray) (r : Bool) (w : World) (hr0 : Kd.C Kd.string w A0 l0.length l0) (hc0 : l0.length ≤ c0) (hr1 : Kd.C Kd.string w A1 l1.length l1) (hc1 : l1.length ≤ c1) (h : laws_hlTexts.f k l0 l1 = some r) :
  Calls Tryd.prog 17 #[.slice A0 l0.length c0,.slice A1 l1.length c1] w fun e w' => e = .returned (.bool r) ∧ Drawn0 w w':=by
 have HR0:=Aside0.mk hr0
 have HC0:=Aside0.mk hc0
 clear hr0 hc0
 have HR1:=Aside0.mk hr1
 have HC1:=Aside0.mk hc1
 clear hr1 hc1
 have H : (if (l0.length : Int) = (l1.length : Int) then (laws_hlTexts.l0 k l0 l1 0) else (some false)) = some r:=h
 clear h
 by_cases c3 : (l0.length : Int) = (l1.length : Int)
 ·rw [if_pos c3] at H
  have c3b0 : ((l0.length : Int) == (l1.length : Int)) = true:=beq_iff_eq.mpr c3
  have c3b1 : ((l0.length : Int) != (l1.length : Int)) = false:=bne_eq_false_iff_eq.mpr c3
  have c3b2 : (l0.length == l1.length) = true:=by first | simpa using c3 | (simp at c3 ⊢;omega)
  clear c3
  have H':=Aside0.mk H
  clear H
  go_enter Tryd.func17,Tryd.ntmps17
  go_wp2
  repeat (go_quiet (fail);try go_wp2)
  go_loopg [5] k (fun kq v5 w' => ∃ (x5_1 : Int),v5 = .int .i64 x5_1 ∧ Aside0 (laws_hlTexts.l0 kq l0 l1 x5_1 = some r) ∧ Aside0 (kq ≤ k) ∧ Drawn0 w w')
  case atStart => exact ⟨(0),(by first | rfl | (simp;done) | (simp [*];done)),H',⟨Nat.le_refl _⟩,by repeat (first | exact Drawn0.refl _ | apply Drawn0.step)⟩
  case round =>
   clear H'
   try clear c1
   try clear p2
   try clear c3
   try clear c3b0
   try clear c3b1
   try clear c3b2
   obtain ⟨x5_1,rfl,HA,HK1,⟨m1,rfl⟩⟩:=hrel
   cases gk with
   | zero => exact absurd HA.out (by simp [laws_hlTexts.l0])
   | succ k1 =>
    have H:=HA.out
    clear HA
    simp only [laws_hlTexts.l0] at H
    by_cases c4 : x5_1 < (l0.length : Int)
    ·rw [if_pos c4] at H
     have c4b0 : decide (x5_1 < (l0.length : Int)) = true:=decide_eq_true c4
     clear c4
     by_cases c5 : 0 ≤ x5_1
     ·rw [if_pos c5] at H
      have c5b0 : decide (0 ≤ x5_1) = true:=decide_eq_true c5
      clear c5
      by_cases c6 : x5_1 < (l1.length : Int)
      ·rw [if_pos c6] at H
       have c6b0 : decide (x5_1 < (l1.length : Int)) = true:=decide_eq_true c6
       clear c6
       by_cases c7 : (rdOf ByteArray.empty l0 x5_1).toList = (rdOf ByteArray.empty l1 x5_1).toList
       ·rw [if_pos c7] at H
        have c7b0 : ((rdOf ByteArray.empty l0 x5_1).toList == (rdOf ByteArray.empty l1 x5_1).toList) = true:=beq_iff_eq.mpr c7
        have c7b1 : ((rdOf ByteArray.empty l0 x5_1).toList != (rdOf ByteArray.empty l1 x5_1).toList) = false:=bne_eq_false_iff_eq.mpr c7
        clear c7
        have H':=Aside0.mk H
        clear H
        have p183 : 0 ≤ (x5_1 : Int):=Up.od
        have q183 : x5_1 < (l0.length : Int):=Up.od
        obtain ⟨ad183,e183,hx183_0⟩:=Kd.at_string HR0.out x5_1 p183 q183
        cases e183
        replace p183:=eq_true p183
        replace q183:=eq_true q183
        have p184 : 0 ≤ (x5_1 : Int):=Up.od
        have q184 : x5_1 < (l1.length : Int):=Up.od
        obtain ⟨ad184,e184,hx184_0⟩:=Kd.at_string HR1.out x5_1 p184 q184
        cases e184
        replace p184:=eq_true p184
        replace q184:=eq_true q184
        go_wp2
        repeat (go_quiet (fail);try go_wp2)
        go_roundg k1
        case measure => have:=HK1.out;omega
        case rel => exact ⟨(wrap64 (x5_1 + 1)),(by first | rfl | (simp;done) | (simp [*];done)),H',⟨by have:=HK1.out;omega⟩,by repeat (first | exact Drawn0.refl _ | apply Drawn0.step)⟩
       ·rw [if_neg c7] at H
        have c7b0 : ((rdOf ByteArray.empty l0 x5_1).toList == (rdOf ByteArray.empty l1 x5_1).toList) = false:=beq_eq_false_iff_ne.mpr c7
        have c7b1 : ((rdOf ByteArray.empty l0 x5_1).toList != (rdOf ByteArray.empty l1 x5_1).toList) = true:=bne_iff_ne.mpr c7
        obtain rfl:=Option.some.inj H
        have p183 : 0 ≤ (x5_1 : Int):=Up.od
        have q183 : x5_1 < (l0.length : Int):=Up.od
        obtain ⟨ad183,e183,hx183_0⟩:=Kd.at_string HR0.out x5_1 p183 q183
        cases e183
        replace p183:=eq_true p183
        replace q183:=eq_true q183
        have p184 : 0 ≤ (x5_1 : Int):=Up.od
        have q184 : x5_1 < (l1.length : Int):=Up.od
        obtain ⟨ad184,e184,hx184_0⟩:=Kd.at_string HR1.out x5_1 p184 q184
        cases e184
        replace p184:=eq_true p184
        replace q184:=eq_true q184
        go_wp2
        repeat (go_quiet (fail);try go_wp2)
        go_ret
        exact Up.e2
      ·rw [if_neg c6] at H
       exact absurd H (by simp)
     ·rw [if_neg c5] at H
      exact absurd H (by simp)
    ·rw [if_neg c4] at H
     have c4b0 : decide (x5_1 < (l0.length : Int)) = false:=decide_eq_false c4
     clear c4
     obtain rfl:=Option.some.inj H
     go_wp2
     repeat (go_quiet (fail);try go_wp2)
     go_ret
     exact Up.e2
 ·rw [if_neg c3] at H
  have c3b0 : ((l0.length : Int) == (l1.length : Int)) = false:=beq_eq_false_iff_ne.mpr c3
  have c3b1 : ((l0.length : Int) != (l1.length : Int)) = true:=bne_iff_ne.mpr c3
  have c3b2 : (l0.length == l1.length) = false:=by first | simpa using c3 | (simp at c3 ⊢;omega)
  obtain rfl:=Option.some.inj H
  go_enter Tryd.func17,Tryd.ntmps17
  go_wp2
  repeat (go_quiet (fail);try go_wp2)
  go_ret
  exact Up.e2

/-! ### laws_hlHas: function 18 -/
def laws_hlHas.l0 : Nat → List ByteArray → ByteArray → Int → Option (Bool)
 | 0,_,_,_ => none
 | k + 1,x0,x1,x5 => if x5 < (x0.length : Int) then (if 0 ≤ x5 then (if (rdOf ByteArray.empty x0 x5).toList = x1.toList then (some true) else (laws_hlHas.l0 k x0 x1 (wrap64 (x5 + 1)))) else (none)) else (some false)
def laws_hlHas.f (k : Nat) (l0 : List ByteArray) (a1 : ByteArray) : Option (Bool):=laws_hlHas.l0 k l0 a1 0
theorem laws_hlHas.mono_l : ∀ k,(∀ y0 y1 y2,LeO (laws_hlHas.l0 k y0 y1 y2) (laws_hlHas.l0 (k + 1) y0 y1 y2))
 | 0 => fun _ _ _ r h => by simp [laws_hlHas.l0] at h
 | k + 1 => by
  have ih0:=laws_hlHas.mono_l k
  ·intro y0 y1 y2
   unfold laws_hlHas.l0
   repeat' first
   | (with_reducible exact ih0 _ _ _)
   | (with_reducible exact LeO.refl _)
   | (with_reducible exact LeO.none _)
   | (with_reducible refine LeO.ite ?_ ?_)
   | (with_reducible refine LeO.bind ?_ (fun _ => ?_))
   | exact ih0 _ _ _
   | exact LeO.none _
   | refine LeO.ite ?_ ?_
   | refine LeO.bind ?_ (fun _ => ?_)
theorem laws_hlHas.mono : ∀ a0 a1 k,LeO (laws_hlHas.f k a0 a1) (laws_hlHas.f (k + 1) a0 a1):=by
 intro a0 a1 k
 have ih0:=laws_hlHas.mono_l k
 unfold laws_hlHas.f
 repeat' first
   | (with_reducible exact ih0 _ _ _)
   | (with_reducible exact LeO.refl _)
   | (with_reducible exact LeO.none _)
   | (with_reducible refine LeO.ite ?_ ?_)
   | (with_reducible refine LeO.bind ?_ (fun _ => ?_))
   | exact ih0 _ _ _
   | exact LeO.none _
   | refine LeO.ite ?_ ?_
   | refine LeO.bind ?_ (fun _ => ?_)
set_option maxHeartbeats 8000000 in
set_option maxRecDepth 100000 in
theorem laws_hlHas.calls (k : Nat) (A0 : Option Addr) (c0 : Nat) (l0 : List ByteArray) (a1 : ByteArray) (r : Bool) (w : World) (hr0 : Kd.C Kd.string w A0 l0.length l0) (hc0 : l0.length ≤ c0) (h : laws_hlHas.f k l0 a1 = some r) :
  Calls Tryd.prog 18 #[.slice A0 l0.length c0,.string a1] w fun e w' => e = .returned (.bool r) ∧ Drawn0 w w':=by
 have HR0:=Aside0.mk hr0
 have HC0:=Aside0.mk hc0
 clear hr0 hc0
 have H : (laws_hlHas.l0 k l0 a1 0) = some r:=h
 clear h
 have H':=Aside0.mk H
 clear H
 go_enter Tryd.func18,Tryd.ntmps18
 go_wp2
 go_loopg [5] k (fun kq v5 w' => ∃ (x5_1 : Int),v5 = .int .i64 x5_1 ∧ Aside0 (laws_hlHas.l0 kq l0 a1 x5_1 = some r) ∧ Aside0 (kq ≤ k) ∧ Drawn0 w w')
 case atStart => exact ⟨(0),(by first | rfl | (simp;done) | (simp [*];done)),H',⟨Nat.le_refl _⟩,by repeat (first | exact Drawn0.refl _ | apply Drawn0.step)⟩
 case round =>
  clear H'
  try clear c1
  try clear p2
  obtain ⟨x5_1,rfl,HA,HK1,⟨m1,rfl⟩⟩:=hrel
  cases gk with
  | zero => exact absurd HA.out (by simp [laws_hlHas.l0])
  | succ k1 =>
   have H:=HA.out
   clear HA
   simp only [laws_hlHas.l0] at H
   by_cases c3 : x5_1 < (l0.length : Int)
   ·rw [if_pos c3] at H
    have c3b0 : decide (x5_1 < (l0.length : Int)) = true:=decide_eq_true c3
    clear c3
    by_cases c4 : 0 ≤ x5_1
    ·rw [if_pos c4] at H
     have c4b0 : decide (0 ≤ x5_1) = true:=decide_eq_true c4
     clear c4
     by_cases c5 : (rdOf ByteArray.empty l0 x5_1).toList = a1.toList
     ·rw [if_pos c5] at H
      have c5b0 : ((rdOf ByteArray.empty l0 x5_1).toList == a1.toList) = true:=beq_iff_eq.mpr c5
      have c5b1 : ((rdOf ByteArray.empty l0 x5_1).toList != a1.toList) = false:=bne_eq_false_iff_eq.mpr c5
      clear c5
      obtain rfl:=Option.some.inj H
      have p185 : 0 ≤ (x5_1 : Int):=Up.od
      have q185 : x5_1 < (l0.length : Int):=Up.od
      obtain ⟨ad185,e185,hx185_0⟩:=Kd.at_string HR0.out x5_1 p185 q185
      cases e185
      replace p185:=eq_true p185
      replace q185:=eq_true q185
      go_wp2
      go_ret
      exact Up.e2
     ·rw [if_neg c5] at H
      have c5b0 : ((rdOf ByteArray.empty l0 x5_1).toList == a1.toList) = false:=beq_eq_false_iff_ne.mpr c5
      have c5b1 : ((rdOf ByteArray.empty l0 x5_1).toList != a1.toList) = true:=bne_iff_ne.mpr c5
      have H':=Aside0.mk H
      clear H
      have p185 : 0 ≤ (x5_1 : Int):=Up.od
      have q185 : x5_1 < (l0.length : Int):=Up.od
      obtain ⟨ad185,e185,hx185_0⟩:=Kd.at_string HR0.out x5_1 p185 q185
      cases e185
      replace p185:=eq_true p185
      replace q185:=eq_true q185
      go_wp2
      go_roundg k1
      case measure => have:=HK1.out;omega
      case rel => exact ⟨(wrap64 (x5_1 + 1)),(by first | rfl | (simp;done) | (simp [*];done)),H',⟨by have:=HK1.out;omega⟩,by repeat (first | exact Drawn0.refl _ | apply Drawn0.step)⟩
    ·rw [if_neg c4] at H
     exact absurd H (by simp)
   ·rw [if_neg c3] at H
    have c3b0 : decide (x5_1 < (l0.length : Int)) = false:=decide_eq_false c3
    clear c3
    obtain rfl:=Option.some.inj H
    go_wp2
    go_ret
    exact Up.e2

/-! ### laws_FnInsWords: function 4 -/
def laws_FnInsWords.l0 : Nat → List Int → List ByteArray → Int → Option (Bool)
 | 0,_,_,_ => none
 | k + 1,x0,x3,x5 => if x5 < (x3.length : Int) then (if 0 ≤ x5 then ((impl_InsOk.f k (rdOf ByteArray.empty x3 x5) 0 0).bind fun t194 => (if t194 = true then (if x5 ≤ (x3.length : Int) then ((laws_hlHas.f k (x3.take (x5 : Int).toNat) (rdOf ByteArray.empty x3 x5)).bind fun t201 => (if t201 = true then (some false) else (laws_FnInsWords.l0 k x0 x3 (wrap64 (x5 + 1))))) else (none)) else (some false))) else (none)) else (if (x3.length : Int) > 30 then (some (decide ((x0.length : Int) ≥ 0))) else (some false))
def laws_FnInsWords.f (k : Nat) (l0 : List Int) : Option (Bool):=if (l0.length : Int) > 1048576 then (some true) else ((impl_InsWords.f k).bind fun t186 => ((spec_InsWords.f k).bind fun t189 => ((laws_hlTexts.f k t186 t189).bind fun t192 => (if t192 = true then (laws_FnInsWords.l0 k l0 t186 0) else (some false)))))
theorem laws_FnInsWords.mono_l : ∀ k,(∀ y0 y1 y2,LeO (laws_FnInsWords.l0 k y0 y1 y2) (laws_FnInsWords.l0 (k + 1) y0 y1 y2))
 | 0 => fun _ _ _ r h => by simp [laws_FnInsWords.l0] at h
 | k + 1 => by
  have ih0:=laws_FnInsWords.mono_l k
  ·intro y0 y1 y2
   unfold laws_FnInsWords.l0
   repeat' first
   | (with_reducible exact ih0 _ _ _)
   | (with_reducible exact impl_InsOk.mono _ _ _ _)
   | (with_reducible exact impl_InsWords.mono _)
   | (with_reducible exact laws_hlHas.mono _ _ _)
   | (with_reducible exact laws_hlTexts.mono _ _ _)
   | (with_reducible exact spec_InsWords.mono _)
   | (with_reducible exact LeO.refl _)
   | (with_reducible exact LeO.none _)
   | (with_reducible refine LeO.ite ?_ ?_)
   | (with_reducible refine LeO.bind ?_ (fun _ => ?_))
   | exact ih0 _ _ _
   | exact impl_InsOk.mono _ _ _ _
   | exact impl_InsWords.mono _
   | exact laws_hlHas.mono _ _ _
   | exact laws_hlTexts.mono _ _ _
   | exact spec_InsWords.mono _
   | exact LeO.none _
   | refine LeO.ite ?_ ?_
   | refine LeO.bind ?_ (fun _ => ?_)
theorem laws_FnInsWords.mono : ∀ a0 k,LeO (laws_FnInsWords.f k a0) (laws_FnInsWords.f (k + 1) a0):=by
 intro a0 k
 have ih0:=laws_FnInsWords.mono_l k
 unfold laws_FnInsWords.f
 repeat' first
   | (with_reducible exact ih0 _ _ _)
   | (with_reducible exact impl_InsOk.mono _ _ _ _)
   | (with_reducible exact impl_InsWords.mono _)
   | (with_reducible exact laws_hlHas.mono _ _ _)
   | (with_reducible exact laws_hlTexts.mono _ _ _)
   | (with_reducible exact spec_InsWords.mono _)
   | (with_reducible exact LeO.refl _)
   | (with_reducible exact LeO.none _)
   | (with_reducible refine LeO.ite ?_ ?_)
   | (with_reducible refine LeO.bind ?_ (fun _ => ?_))
   | exact ih0 _ _ _
   | exact impl_InsOk.mono _ _ _ _
   | exact impl_InsWords.mono _
   | exact laws_hlHas.mono _ _ _
   | exact laws_hlTexts.mono _ _ _
   | exact spec_InsWords.mono _
   | exact LeO.none _
   | refine LeO.ite ?_ ?_
   | refine LeO.bind ?_ (fun _ => ?_)
def laws_FnInsWords.T10 : Bool × List (List Nat × List Nat):=(true,[([],[]),([],[]),([0,1],[0,1]),([2],[2]),([3],[3]),([4],[4]),([5],[5]),([6,5],[6]),([7],[7]),([7],[7]),([8,9,7],[7,8,9]),([7],[7]),([7],[7]),([11,12,7],[7,11,12]),([13,7],[7,13]),([10,14,7,7],[7,10,14]),([7,15],[7,15])])
def laws_FnInsWords.B10 : List Nat:=[0,0,3,7,15,31,63,127,255,255,1023,255,255,6399,14591,32767,65535]
theorem laws_FnInsWords.tab10 : rtab .any (opsOf Tryd.f4 10) = laws_FnInsWords.T10:=by kernel_rfl
theorem laws_FnInsWords.bits10 : waitsOk laws_FnInsWords.T10.2 laws_FnInsWords.B10 = true:=by kernel_rfl
set_option maxHeartbeats 8000000 in
set_option maxRecDepth 100000 in
theorem laws_FnInsWords.calls (k : Nat) (A0 : Option Addr) (c0 : Nat) (l0 : List Int) (r : Bool) (w : World) (hT_ : Tab w) (hr0 : Kd.C (Kd.int .u8) w A0 l0.length l0) (hc0 : l0.length ≤ c0) (h : laws_FnInsWords.f k l0 = some r) :
  Calls Tryd.prog 4 #[.slice A0 l0.length c0] w fun e w' => e = .returned (.bool r) ∧ Below w.heap.size w w':=by
 have hu26:=Tryd.underlying26
 have HR0:=Aside0.mk hr0
 have HC0:=Aside0.mk hc0
 clear hr0 hc0
 have HB:=Aside0.mk (Below.refl w.heap.size w)
 have H : (if (l0.length : Int) > 1048576 then (some true) else ((impl_InsWords.f k).bind fun t186 => ((spec_InsWords.f k).bind fun t189 => ((laws_hlTexts.f k t186 t189).bind fun t192 => (if t192 = true then (laws_FnInsWords.l0 k l0 t186 0) else (some false)))))) = some r:=h
 clear h
 by_cases c2 : (l0.length : Int) > 1048576
 ·rw [if_pos c2] at H
  have c2b0 : decide (1048576 < (l0.length : Int)) = true:=decide_eq_true c2
  have c2b1 : decide (1048576 < l0.length) = true:=decide_eq_true (by omega)
  clear c2
  obtain rfl:=Option.some.inj H
  go_enter Tryd.func4,Tryd.ntmps4
  go_wp2
  go_ret
  exact Up.e1 (Up.Bup HB)
 ·rw [if_neg c2] at H
  have c2b0 : decide (1048576 < (l0.length : Int)) = false:=decide_eq_false c2
  have c2b1 : decide (1048576 < l0.length) = false:=decide_eq_false (by omega)
  clear c2
  replace H:=Option.bind_eq_some_iff.mp H
  obtain ⟨t186,A30,H⟩:=H
  replace H : ((spec_InsWords.f k).bind fun t189 => ((laws_hlTexts.f k t186 t189).bind fun t192 => (if t192 = true then (laws_FnInsWords.l0 k l0 t186 0) else (some false)))) = some r:=H
  have A3:=Aside0.mk A30
  clear A30
  replace H:=Option.bind_eq_some_iff.mp H
  obtain ⟨t189,A40,H⟩:=H
  replace H : ((laws_hlTexts.f k t186 t189).bind fun t192 => (if t192 = true then (laws_FnInsWords.l0 k l0 t186 0) else (some false))) = some r:=H
  have A4:=Aside0.mk A40
  clear A40
  replace H:=Option.bind_eq_some_iff.mp H
  obtain ⟨t192,A50,H⟩:=H
  replace H : (if t192 = true then (laws_FnInsWords.l0 k l0 t186 0) else (some false)) = some r:=H
  have A5:=Aside0.mk A50
  clear A50
  by_cases c6 : t192 = true
  ·subst c6
   have H1 : (laws_FnInsWords.l0 k l0 t186 0) = some r:=by rw [if_pos rfl] at H;exact H
   clear H
   have H:=H1
   clear H1
   have H':=Aside0.mk H
   clear H
   go_enter Tryd.func4,Tryd.ntmps4
   go_wp2_with (first | ((with_reducible refine gate_callee (f:=15) rfl ?_);refine Up.gl (some 9) Tryd.func15 #[] ?_;(with_reducible refine (impl_InsWords.calls (hT_:=?tab1) k  t186 _ A3.out).mono ?_);(case tab1 => exact hT_.below (Up.Bx HB));rintro e w7 ⟨v187,rfl,ho0,hb⟩;refine ⟨_,rfl,?_⟩;have n0_:=Aside0.mk (Kd.V_lower (Kd.V_mono (ok':=fun k_ => True) ho0 (fun k_ hk_ => trivial)) (below_size (Up.Bup HB)));have n1_:=Up.BB HB hb;clear HB;have HO188:=n0_;have HB:=n1_;clear n0_ n1_;(try clear hb);(try clear hb2);(try clear hk);(try clear hi);(try clear ho0)) | ((with_reducible refine gate_callee (f:=16) rfl ?_);refine Up.gl (some 10) Tryd.func16 #[] ?_;(with_reducible refine (spec_InsWords.calls k  t189 _ A4.out).mono ?_);rintro e w8 ⟨v190,rfl,ho0,hb⟩;refine ⟨_,rfl,?_⟩;have n0_:=Aside0.mk (Kd.V_elder' (Up.Vup HO188) (Kd.R_base ho0) hb);have n1_:=Aside0.mk (Kd.R_lower ho0 (below_size (Up.Bup HB)));have n2_:=Up.BB HB hb;clear HO188 HB;have HO188:=n0_;have HO191:=n1_;have HB:=n2_;clear n0_ n1_ n2_;(try clear hb);(try clear hb2);(try clear hk);(try clear hi);(try clear ho0);obtain ⟨Ao9,co9,eo9⟩:=Kd.V_slice HO188.out;subst eo9;obtain ⟨Ao10,co10,eo10⟩:=Kd.R_slice HO191.out;subst eo10) | ((with_reducible refine gate_callee (f:=17) rfl ?_);refine Up.gl (some 13) Tryd.func17 #[.slice Ao9 t186.length co9,.slice Ao10 t189.length co10] ?_;(with_reducible refine (laws_hlTexts.calls k _ _ t186 _ _ t189 true _ ?side1 ?side2 ?side3 ?side4 A5.out).mono ?_);(case side1 => repeat (first | exact (Kd.V_reads' HO188.out).2.2 | (with_reducible refine Kd.C_alloc ?_ _) | (with_reducible refine Kd.C_drewN ?_ _) | (with_reducible refine Kd.C_drew ?_)));(case side2 => exact (Kd.V_reads' HO188.out).2.1);(case side3 => repeat (first | exact (Kd.R_reads' HO191.out).2.2 | (with_reducible refine Kd.C_alloc ?_ _) | (with_reducible refine Kd.C_drewN ?_ _) | (with_reducible refine Kd.C_drew ?_)));(case side4 => exact (Kd.R_reads' HO191.out).2.1);rintro e w' ⟨rfl,⟨nd,rfl⟩⟩;refine ⟨_,rfl,?_⟩))
   go_loopg [5] k (fun kq v5 w' => ∃ (x5_1 : Int),v5 = .int .i64 x5_1 ∧ Aside0 (laws_FnInsWords.l0 kq l0 t186 x5_1 = some r) ∧ Aside0 (kq ≤ k) ∧ Aside0 (Kd.V Kd.string 9 w' w.heap.size (fun _ => True) (.slice Ao9 t186.length co9) t186) ∧ Aside0 (Below w.heap.size w w'))
   case atStart => exact ⟨(0),(by first | rfl | (simp;done) | (simp [*];done)),H',⟨Nat.le_refl _⟩,⟨by (with_reducible repeat (first | apply Kd.V_alloc | apply Kd.V_drewN | apply Kd.V_drew));exact Kd.V_mono HO188.out (fun _ hk => trivial)⟩,⟨Up.Bup HB⟩⟩
   case round =>
    clear H'
    try clear c1
    try clear c2
    try clear c2b0
    try clear c2b1
    try clear p2
    try clear c4
    try clear c6
    obtain ⟨x5_1,rfl,HA,HK1,HO_3,HB⟩:=hrel
    cases gk with
    | zero => exact absurd HA.out (by simp [laws_FnInsWords.l0])
    | succ k1 =>
     have H:=HA.out
     clear HA
     simp only [laws_FnInsWords.l0] at H
     by_cases c11 : x5_1 < (t186.length : Int)
     ·rw [if_pos c11] at H
      have c11b0 : decide (x5_1 < (t186.length : Int)) = true:=decide_eq_true c11
      clear c11
      by_cases c12 : 0 ≤ x5_1
      ·rw [if_pos c12] at H
       have c12b0 : decide (0 ≤ x5_1) = true:=decide_eq_true c12
       clear c12
       replace H:=Option.bind_eq_some_iff.mp H
       obtain ⟨t194,A130,H⟩:=H
       replace H : (if t194 = true then (if x5_1 ≤ (t186.length : Int) then ((laws_hlHas.f k1 (t186.take (x5_1 : Int).toNat) (rdOf ByteArray.empty t186 x5_1)).bind fun t201 => (if t201 = true then (some false) else (laws_FnInsWords.l0 k1 l0 t186 (wrap64 (x5_1 + 1))))) else (none)) else (some false)) = some r:=H
       have A13:=Aside0.mk A130
       clear A130
       by_cases c14 : t194 = true
       ·subst c14
        have H1 : (if x5_1 ≤ (t186.length : Int) then ((laws_hlHas.f k1 (t186.take (x5_1 : Int).toNat) (rdOf ByteArray.empty t186 x5_1)).bind fun t201 => (if t201 = true then (some false) else (laws_FnInsWords.l0 k1 l0 t186 (wrap64 (x5_1 + 1))))) else (none)) = some r:=by rw [if_pos rfl] at H;exact H
        clear H
        have H:=H1
        clear H1
        have c15b0:=eq_true (Up.od : 0 ≤ x5_1)
        by_cases c16 : x5_1 ≤ (t186.length : Int)
        ·rw [if_pos c16] at H
         have c16b0:=eq_true c16
         have c16b1 : decide (x5_1 ≤ (t186.length : Int)) = true:=decide_eq_true c16
         clear c16
         obtain ⟨y195,hy195⟩ : ∃ y_ : List ByteArray,y_ = (t186.take (x5_1 : Int).toNat):=⟨_,rfl⟩
         replace H : ((laws_hlHas.f k1 y195 (rdOf ByteArray.empty t186 x5_1)).bind fun t201 => (if t201 = true then (some false) else (laws_FnInsWords.l0 k1 l0 t186 (wrap64 (x5_1 + 1))))) = some r:=by first | (rw [hy195];with_reducible exact H) | (have H2_:=(Option.bind_some _ _).symm.trans H;rw [hy195];with_reducible exact H2_) | (have H2_:=(Option.bind_some _ _).symm.trans H;with_reducible exact H2_) | with_reducible exact H | (rw [hy195];exact H) | exact H
         have Ny195:=Aside0.mk hy195
         clear hy195
         replace H:=Option.bind_eq_some_iff.mp H
         obtain ⟨t201,A170,H⟩:=H
         replace H : (if t201 = true then (some false) else (laws_FnInsWords.l0 k1 l0 t186 (wrap64 (x5_1 + 1)))) = some r:=H
         have A17:=Aside0.mk A170
         clear A170
         by_cases c18 : t201 = true
         ·subst c18
          have H1 : (some false) = some r:=by rw [if_pos rfl] at H;exact H
          clear H
          have H:=H1
          clear H1
          obtain rfl:=Option.some.inj H
          try go_wp2
          have n0_:=Aside0.mk (Kd.V_drew HO_3.out)
          have n1_:=Aside0.mk (below_drew1 HB.out)
          clear HO_3
          clear HB
          have HO_3:=n0_
          have HB:=n1_
          clear n0_ n1_
          have p193 : 0 ≤ (x5_1 : Int):=Up.od
          have q193 : x5_1 < (t186.length : Int):=Up.od
          obtain ⟨ad193,e193,hx193_0⟩:=Kd.at_string (Kd.V_reads' HO_3.out).2.2 x5_1 p193 q193
          cases e193
          replace p193:=eq_true p193
          replace q193:=eq_true q193
          have p200 : 0 ≤ (x5_1 : Int):=Up.od
          have q200 : x5_1 < (t186.length : Int):=Up.od
          obtain ⟨ad200,e200,hx200_0⟩:=Kd.at_string (Kd.V_reads' HO_3.out).2.2 x5_1 p200 q200
          obtain rfl : ad193 = ad200:=(by injection e200)
          replace p200:=eq_true p200
          replace q200:=eq_true q200
          refine start_ (n:=17) (S:=fun w' => w'.cell? (ad193.add (x5_1).toNat) = some (.string (rdOf ByteArray.empty t186 x5_1)) ∧ w'.cell? (ad193.add (x5_1).toNat) = some (.string (rdOf ByteArray.empty t186 x5_1))) (ds:=[]) #[false,false,false,false,false,false,false,false,false,false,false,false,false,false,false,false,false] (by kernel_rfl) rfl rfl ⟨hx193_0,hx200_0⟩ (fun hHeld => ?_);refine with_tabW laws_FnInsWords.tab10 laws_FnInsWords.bits10 (fun HT_ HW_ => ?_)
          generalize wr.drew = w19 at HO_3 HB hx193_0 hx200_0 hHeld ⊢
          refine Up.pu 0 (some 21) HT_ ?_
          refine Up.pu 1 (some 22) HT_ ?_
          refine Up.pu 2 (some 23) HT_ ?_
          refine Up.tk 3 (some 24) HT_ HW_ hHeld ?_ (hy:=by rintro w' ⟨s0,s1⟩;go_simp;with_reducible rfl)
          refine Up.pu 4 (some 25) HT_ ?_
          refine Up.on 5 (some 26) HT_ (fun K hK => ?_)
          refine Up.go Tryd.func14 #[.agg #[.string (rdOf ByteArray.empty t186 x5_1),.int .i64 0,.int .i64 0]] ?_
          with_reducible refine (impl_InsOk.calls (hT_:=?tab1) k1 (rdOf ByteArray.empty t186 x5_1) 0 0 true _ A13.out).mono ?_
          (case tab1 => exact hT_.below (Up.Bx HB))
          rintro e w20 ⟨rfl,hb⟩
          have HS0_:=(hb.cell (World.block_lt_of_cell? _ _ (hHeld.1))).trans (hHeld.1)
          have HS1_:=(hb.cell (World.block_lt_of_cell? _ _ (hHeld.2))).trans (hHeld.2)
          refine ⟨_,rfl,?_⟩
          have n0_:=Up.VB HO_3 hb
          have n1_:=Up.BB HB hb
          clear HO_3
          clear HB
          have HO_3:=n0_
          have HB:=n1_
          clear n0_ n1_
          (try clear hb)
          (try clear hb2)
          (try clear hk)
          (try clear hi)
          have q21 : (x5_1 : Int) ≤ ((t186.length : Int) : Int):=Up.od
          obtain ⟨i021,hi021,_,hsz21,_⟩:=info_parts info9
          have hroom21 : t186.length ≤ co9:=(Kd.V_reads' HO_3.out).2.1
          have hC21 : Kd.F Kd.string _ _ (some ad193) t186.length t186:=(Kd.V_at (base:=w.heap.size) HO_3.out).2.2
          have hcut21:=cut_to (P:=Tryd.prog) 30 9 .i64 Tryd.underlying30 hi021 (some ad193) t186.length co9 x5_1 (Up.od) q21 hroom21
          have hr21:=Kd.F_take (m:=(x5_1 : Int).toNat) hC21 (by omega)
          have hy21 : y195.length = (x5_1 : Int).toNat:=(by rw [Ny195.out,List.length_take];omega)
          rw [← Ny195.out] at hr21
          rw [← hy21] at hcut21
          have HO199:=Aside0.mk (show Kd.V Kd.string 9 _ w.heap.size _ (.slice (some ad193) y195.length co9) y195 from Kd.V_mk (by omega) hr21)
          have HC199:=Aside0.mk (show y195.length ≤ co9 from by omega)
          clear hr21 hC21 hroom21 hi021 hsz21
          have KY21:=Aside0.mk hy21
          clear hy21
          replace q21:=eq_true q21
          refine hK.out _ _ ⟨HS0_,HS1_⟩ (fun hHeld => ?_)
          clear hK K
          refine Up.nm 26 ?_
          refine Up.pu 6 (some 27) HT_ ?_
          refine Up.pu 7 (some 28) HT_ ?_
          refine Up.pu 8 (some 29) HT_ ?_
          refine Up.pu 9 (some 30) HT_ ?_
          refine Up.pu 10 (some 31) HT_ ?_
          refine Up.pu 11 (some 32) HT_ ?_
          refine Up.pu 12 (some 33) HT_ ?_
          refine Up.pu 13 (some 34) HT_ ?_
          refine Up.tk 14 (some 35) HT_ HW_ hHeld ?_ (hy:=by rintro w' ⟨s0,s1⟩;go_simp;with_reducible rfl)
          refine Up.on 15 (some 36) HT_ (fun K hK => ?_)
          refine Up.go Tryd.func18 #[.slice (some ad193) y195.length co9,.string (rdOf ByteArray.empty t186 x5_1)] ?_
          with_reducible refine (laws_hlHas.calls k1 _ _ y195 (rdOf ByteArray.empty t186 x5_1) true _ ?side1 ?side2 A17.out).mono ?_
          (case side1 => repeat (first | exact (Kd.V_reads' HO199.out).2.2 | (with_reducible refine Kd.C_alloc ?_ _) | (with_reducible refine Kd.C_drewN ?_ _) | (with_reducible refine Kd.C_drew ?_)))
          (case side2 => exact (Kd.V_reads' HO199.out).2.1)
          rintro e w' ⟨rfl,⟨nd,rfl⟩⟩
          refine ⟨_,rfl,?_⟩
          refine hK.out _ _ ⟨hHeld.1,hHeld.2⟩ (fun hHeld => ?_)
          clear hK K
          refine Up.nm 36 ?_
          refine Up.pu 16 (some 37) HT_ ?_
          refine done_ (done_of HT_.out (by kernel_rfl)) ?_
          try go_wp2
          go_ret
          exact Up.e1 (Up.Bup HB)
         ·replace c18:=Bool.eq_false_iff.mpr c18
          subst c18
          have H1 : (laws_FnInsWords.l0 k1 l0 t186 (wrap64 (x5_1 + 1))) = some r:=by rw [if_neg (show ¬ (false = true) by decide)] at H;exact H
          clear H
          have H:=H1
          clear H1
          have H':=Aside0.mk H
          clear H
          try go_wp2
          have n0_:=Aside0.mk (Kd.V_drew HO_3.out)
          have n1_:=Aside0.mk (below_drew1 HB.out)
          clear HO_3
          clear HB
          have HO_3:=n0_
          have HB:=n1_
          clear n0_ n1_
          have p193 : 0 ≤ (x5_1 : Int):=Up.od
          have q193 : x5_1 < (t186.length : Int):=Up.od
          obtain ⟨ad193,e193,hx193_0⟩:=Kd.at_string (Kd.V_reads' HO_3.out).2.2 x5_1 p193 q193
          cases e193
          replace p193:=eq_true p193
          replace q193:=eq_true q193
          have p200 : 0 ≤ (x5_1 : Int):=Up.od
          have q200 : x5_1 < (t186.length : Int):=Up.od
          obtain ⟨ad200,e200,hx200_0⟩:=Kd.at_string (Kd.V_reads' HO_3.out).2.2 x5_1 p200 q200
          obtain rfl : ad193 = ad200:=(by injection e200)
          replace p200:=eq_true p200
          replace q200:=eq_true q200
          refine start_ (n:=17) (S:=fun w' => w'.cell? (ad193.add (x5_1).toNat) = some (.string (rdOf ByteArray.empty t186 x5_1)) ∧ w'.cell? (ad193.add (x5_1).toNat) = some (.string (rdOf ByteArray.empty t186 x5_1))) (ds:=[]) #[false,false,false,false,false,false,false,false,false,false,false,false,false,false,false,false,false] (by kernel_rfl) rfl rfl ⟨hx193_0,hx200_0⟩ (fun hHeld => ?_);refine with_tabW laws_FnInsWords.tab10 laws_FnInsWords.bits10 (fun HT_ HW_ => ?_)
          generalize wr.drew = w22 at HO_3 HB hx193_0 hx200_0 hHeld ⊢
          refine Up.pu 0 (some 21) HT_ ?_
          refine Up.pu 1 (some 22) HT_ ?_
          refine Up.pu 2 (some 23) HT_ ?_
          refine Up.tk 3 (some 24) HT_ HW_ hHeld ?_ (hy:=by rintro w' ⟨s0,s1⟩;go_simp;with_reducible rfl)
          refine Up.pu 4 (some 25) HT_ ?_
          refine Up.on 5 (some 26) HT_ (fun K hK => ?_)
          refine Up.go Tryd.func14 #[.agg #[.string (rdOf ByteArray.empty t186 x5_1),.int .i64 0,.int .i64 0]] ?_
          with_reducible refine (impl_InsOk.calls (hT_:=?tab1) k1 (rdOf ByteArray.empty t186 x5_1) 0 0 true _ A13.out).mono ?_
          (case tab1 => exact hT_.below (Up.Bx HB))
          rintro e w23 ⟨rfl,hb⟩
          have HS0_:=(hb.cell (World.block_lt_of_cell? _ _ (hHeld.1))).trans (hHeld.1)
          have HS1_:=(hb.cell (World.block_lt_of_cell? _ _ (hHeld.2))).trans (hHeld.2)
          refine ⟨_,rfl,?_⟩
          have n0_:=Up.VB HO_3 hb
          have n1_:=Up.BB HB hb
          clear HO_3
          clear HB
          have HO_3:=n0_
          have HB:=n1_
          clear n0_ n1_
          (try clear hb)
          (try clear hb2)
          (try clear hk)
          (try clear hi)
          have q24 : (x5_1 : Int) ≤ ((t186.length : Int) : Int):=Up.od
          obtain ⟨i024,hi024,_,hsz24,_⟩:=info_parts info9
          have hroom24 : t186.length ≤ co9:=(Kd.V_reads' HO_3.out).2.1
          have hC24 : Kd.F Kd.string _ _ (some ad193) t186.length t186:=(Kd.V_at (base:=w.heap.size) HO_3.out).2.2
          have hcut24:=cut_to (P:=Tryd.prog) 30 9 .i64 Tryd.underlying30 hi024 (some ad193) t186.length co9 x5_1 (Up.od) q24 hroom24
          have hr24:=Kd.F_take (m:=(x5_1 : Int).toNat) hC24 (by omega)
          have hy24 : y195.length = (x5_1 : Int).toNat:=(by rw [Ny195.out,List.length_take];omega)
          rw [← Ny195.out] at hr24
          rw [← hy24] at hcut24
          have HO199:=Aside0.mk (show Kd.V Kd.string 9 _ w.heap.size _ (.slice (some ad193) y195.length co9) y195 from Kd.V_mk (by omega) hr24)
          have HC199:=Aside0.mk (show y195.length ≤ co9 from by omega)
          clear hr24 hC24 hroom24 hi024 hsz24
          have KY24:=Aside0.mk hy24
          clear hy24
          replace q24:=eq_true q24
          refine hK.out _ _ ⟨HS0_,HS1_⟩ (fun hHeld => ?_)
          clear hK K
          refine Up.nm 26 ?_
          refine Up.pu 6 (some 27) HT_ ?_
          refine Up.pu 7 (some 28) HT_ ?_
          refine Up.pu 8 (some 29) HT_ ?_
          refine Up.pu 9 (some 30) HT_ ?_
          refine Up.pu 10 (some 31) HT_ ?_
          refine Up.pu 11 (some 32) HT_ ?_
          refine Up.pu 12 (some 33) HT_ ?_
          refine Up.pu 13 (some 34) HT_ ?_
          refine Up.tk 14 (some 35) HT_ HW_ hHeld ?_ (hy:=by rintro w' ⟨s0,s1⟩;go_simp;with_reducible rfl)
          refine Up.on 15 (some 36) HT_ (fun K hK => ?_)
          refine Up.go Tryd.func18 #[.slice (some ad193) y195.length co9,.string (rdOf ByteArray.empty t186 x5_1)] ?_
          with_reducible refine (laws_hlHas.calls k1 _ _ y195 (rdOf ByteArray.empty t186 x5_1) false _ ?side1 ?side2 A17.out).mono ?_
          (case side1 => repeat (first | exact (Kd.V_reads' HO199.out).2.2 | (with_reducible refine Kd.C_alloc ?_ _) | (with_reducible refine Kd.C_drewN ?_ _) | (with_reducible refine Kd.C_drew ?_)))
          (case side2 => exact (Kd.V_reads' HO199.out).2.1)
          rintro e w' ⟨rfl,⟨nd,rfl⟩⟩
          refine ⟨_,rfl,?_⟩
          refine hK.out _ _ ⟨hHeld.1,hHeld.2⟩ (fun hHeld => ?_)
          clear hK K
          refine Up.nm 36 ?_
          refine Up.pu 16 (some 37) HT_ ?_
          refine done_ (done_of HT_.out (by kernel_rfl)) ?_
          try go_wp2
          go_roundg k1
          case measure => have:=HK1.out;omega
          case rel => exact ⟨(wrap64 (x5_1 + 1)),(by first | rfl | (simp;done) | (simp [*];done)),H',⟨by have:=HK1.out;omega⟩,⟨Up.Vup HO_3⟩,⟨Up.Bup HB⟩⟩
        ·rw [if_neg c16] at H
         exact absurd H (by simp)
       ·replace c14:=Bool.eq_false_iff.mpr c14
        subst c14
        have H1 : (some false) = some r:=by rw [if_neg (show ¬ (false = true) by decide)] at H;exact H
        clear H
        have H:=H1
        clear H1
        obtain rfl:=Option.some.inj H
        try go_wp2
        have n0_:=Aside0.mk (Kd.V_drew HO_3.out)
        have n1_:=Aside0.mk (below_drew1 HB.out)
        clear HO_3
        clear HB
        have HO_3:=n0_
        have HB:=n1_
        clear n0_ n1_
        have p193 : 0 ≤ (x5_1 : Int):=Up.od
        have q193 : x5_1 < (t186.length : Int):=Up.od
        obtain ⟨ad193,e193,hx193_0⟩:=Kd.at_string (Kd.V_reads' HO_3.out).2.2 x5_1 p193 q193
        cases e193
        replace p193:=eq_true p193
        replace q193:=eq_true q193
        refine start_ (n:=17) (S:=fun w' => w'.cell? (ad193.add (x5_1).toNat) = some (.string (rdOf ByteArray.empty t186 x5_1))) (ds:=[]) #[false,false,false,false,false,false,false,false,false,false,false,false,false,false,false,false,false] (by kernel_rfl) rfl rfl (hx193_0) (fun hHeld => ?_);refine with_tabW laws_FnInsWords.tab10 laws_FnInsWords.bits10 (fun HT_ HW_ => ?_)
        generalize wr.drew = w25 at HO_3 HB hx193_0 hHeld ⊢
        refine Up.pu 0 (some 21) HT_ ?_
        refine Up.pu 1 (some 22) HT_ ?_
        refine Up.pu 2 (some 23) HT_ ?_
        refine take_ (i:=3) (N:=some 24) (v:=?_) (a':=?_) #[true,true,true,true,false,false,false,false,false,false,false,false,false,false,false,false,false] rfl rfl (take_ofW HT_.out HW_.out (by kernel_rfl)) (fun _ _ _ h => h) (Or.inl ⟨by rfl,?_⟩) hHeld ?_ ?_
        rotate_left
        ·intro w' s0
         go_simp
         with_reducible rfl
        rotate_left
        ·simp only [Act.put,List.setIfInBounds_toArray,List.set_cons_zero,List.set_cons_succ,i64_w,i32_w]
         rfl
        refine Up.pu 4 (some 25) HT_ ?_
        refine Up.on 5 (some 26) HT_ (fun K hK => ?_)
        refine Up.go Tryd.func14 #[.agg #[.string (rdOf ByteArray.empty t186 x5_1),.int .i64 0,.int .i64 0]] ?_
        with_reducible refine (impl_InsOk.calls (hT_:=?tab1) k1 (rdOf ByteArray.empty t186 x5_1) 0 0 false _ A13.out).mono ?_
        (case tab1 => exact hT_.below (Up.Bx HB))
        rintro e w26 ⟨rfl,hb⟩
        have HS0_:=(hb.cell (World.block_lt_of_cell? _ _ (hHeld))).trans (hHeld)
        refine ⟨_,rfl,?_⟩
        have n0_:=Up.VB HO_3 hb
        have n1_:=Up.BB HB hb
        clear HO_3
        clear HB
        have HO_3:=n0_
        have HB:=n1_
        clear n0_ n1_
        (try clear hb)
        (try clear hb2)
        (try clear hk)
        (try clear hi)
        refine hK.out _ _ (HS0_) (fun hHeld => ?_)
        clear hK K
        refine Up.nm 26 ?_
        refine Up.pu 6 (some 27) HT_ ?_
        refine Up.pu 7 (some 28) HT_ ?_
        refine Up.pz 8 (some 29) HT_ ?_
        refine Up.pz 9 (some 30) HT_ ?_
        refine Up.pz 10 (some 31) HT_ ?_
        refine Up.pz 11 (some 32) HT_ ?_
        refine Up.pz 12 (some 33) HT_ ?_
        refine Up.pz 13 (some 34) HT_ ?_
        refine Up.pz 14 (some 35) HT_ ?_
        refine Up.pz 15 (some 36) HT_ ?_
        refine Up.pu 16 (some 37) HT_ ?_
        refine done_ (done_of HT_.out (by kernel_rfl)) ?_
        try go_wp2
        go_ret
        exact Up.e1 (Up.Bup HB)
      ·rw [if_neg c12] at H
       exact absurd H (by simp)
     ·rw [if_neg c11] at H
      have c11b0 : decide (x5_1 < (t186.length : Int)) = false:=decide_eq_false c11
      clear c11
      by_cases c27 : (t186.length : Int) > 30
      ·rw [if_pos c27] at H
       have c27b0 : decide (30 < (t186.length : Int)) = true:=decide_eq_true c27
       have c27b1 : decide (30 < t186.length) = true:=decide_eq_true (by omega)
       clear c27
       obtain rfl:=Option.some.inj H
       go_wp2
       go_ret
       exact Up.e1 (Up.Bup HB)
      ·rw [if_neg c27] at H
       have c27b0 : decide (30 < (t186.length : Int)) = false:=decide_eq_false c27
       have c27b1 : decide (30 < t186.length) = false:=decide_eq_false (by omega)
       clear c27
       obtain rfl:=Option.some.inj H
       go_wp2
       go_ret
       exact Up.e1 (Up.Bup HB)
  ·replace c6:=Bool.eq_false_iff.mpr c6
   subst c6
   have H1 : (some false) = some r:=by rw [if_neg (show ¬ (false = true) by decide)] at H;exact H
   clear H
   have H:=H1
   clear H1
   obtain rfl:=Option.some.inj H
   go_enter Tryd.func4,Tryd.ntmps4
   go_wp2_with (first | ((with_reducible refine gate_callee (f:=15) rfl ?_);refine Up.gl (some 9) Tryd.func15 #[] ?_;(with_reducible refine (impl_InsWords.calls (hT_:=?tab1) k  t186 _ A3.out).mono ?_);(case tab1 => exact hT_.below (Up.Bx HB));rintro e w28 ⟨v187,rfl,ho0,hb⟩;refine ⟨_,rfl,?_⟩;have n0_:=Aside0.mk (Kd.V_lower (Kd.V_mono (ok':=fun k_ => True) ho0 (fun k_ hk_ => trivial)) (below_size (Up.Bup HB)));have n1_:=Up.BB HB hb;clear HB;have HO188:=n0_;have HB:=n1_;clear n0_ n1_;(try clear hb);(try clear hb2);(try clear hk);(try clear hi);(try clear ho0)) | ((with_reducible refine gate_callee (f:=16) rfl ?_);refine Up.gl (some 10) Tryd.func16 #[] ?_;(with_reducible refine (spec_InsWords.calls k  t189 _ A4.out).mono ?_);rintro e w29 ⟨v190,rfl,ho0,hb⟩;refine ⟨_,rfl,?_⟩;have n0_:=Aside0.mk (Kd.V_elder' (Up.Vup HO188) (Kd.R_base ho0) hb);have n1_:=Aside0.mk (Kd.R_lower ho0 (below_size (Up.Bup HB)));have n2_:=Up.BB HB hb;clear HO188 HB;have HO188:=n0_;have HO191:=n1_;have HB:=n2_;clear n0_ n1_ n2_;(try clear hb);(try clear hb2);(try clear hk);(try clear hi);(try clear ho0);obtain ⟨Ao30,co30,eo30⟩:=Kd.V_slice HO188.out;subst eo30;obtain ⟨Ao31,co31,eo31⟩:=Kd.R_slice HO191.out;subst eo31) | ((with_reducible refine gate_callee (f:=17) rfl ?_);refine Up.gl (some 13) Tryd.func17 #[.slice Ao30 t186.length co30,.slice Ao31 t189.length co31] ?_;(with_reducible refine (laws_hlTexts.calls k _ _ t186 _ _ t189 false _ ?side1 ?side2 ?side3 ?side4 A5.out).mono ?_);(case side1 => repeat (first | exact (Kd.V_reads' HO188.out).2.2 | (with_reducible refine Kd.C_alloc ?_ _) | (with_reducible refine Kd.C_drewN ?_ _) | (with_reducible refine Kd.C_drew ?_)));(case side2 => exact (Kd.V_reads' HO188.out).2.1);(case side3 => repeat (first | exact (Kd.R_reads' HO191.out).2.2 | (with_reducible refine Kd.C_alloc ?_ _) | (with_reducible refine Kd.C_drewN ?_ _) | (with_reducible refine Kd.C_drew ?_)));(case side4 => exact (Kd.R_reads' HO191.out).2.1);rintro e w' ⟨rfl,⟨nd,rfl⟩⟩;refine ⟨_,rfl,?_⟩))
   go_ret
   exact Up.e1 (Up.Bup HB)

/-- THE ONE PURE STATEMENT of laws_FnInsWords: yours. -/
def laws_FnInsWords.Pure : Prop:=∀ (l0 : List Int),l0.length ≤ maxLen → l0.length * 1 ≤ 140737488351232 → (∀ x ∈ l0,(Lit.int .u8 x).wf = true) → ∃ k,laws_FnInsWords.f k l0 = some true
theorem laws_FnInsWords.walk (P : laws_FnInsWords.Pure) (a0 : Option Addr) (len0 cap0 : Nat) (z0 : List Int) (w : World) (hT_ : Tab w) (w0 : (a0 = none ∧ len0 = 0 ∧ cap0 = 0 ∧ z0 = []) ∨ ∃ x,a0 = some x ∧ len0 ≤ cap0 ∧ cap0 ≤ maxLen ∧ z0.length = cap0 ∧ (∀ i,i < z0.length → w.cell? (x.add i) = some (.int .u8 (z0.getD i 0))) ∧ ∀ n ∈ z0,(Lit.int .u8 n).wf = true) (y0 : len0 * 1 ≤ 140737488351232) :
  Calls Tryd.prog 4 #[.slice a0 len0 cap0] w fun e w' => e = .returned (.bool true) ∧ Below w.heap.size w w':=by
 obtain ⟨l0,rfl,hr0,hm0,hw0,hc0⟩:=ReadsInt.ofRowC w0
 obtain ⟨k,h⟩:=P l0 hm0 y0 hw0
 refine (laws_FnInsWords.calls (hT_:=hT_) k _ _ l0 true w (Kd.C_of_reads (d:=(0 : Int)) (h1:=fun _ => rfl) hr0) hc0 h).mono ?_
 rintro e w' ⟨rfl,hd⟩
 exact ⟨rfl,hd⟩

end Go.Proofs.YtfkhjnmgaadomaaDoor.OFnInsWords
