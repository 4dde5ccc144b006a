-- Laid by a program of this session (wip/myprint.py): the kit's print of the functions, contracts of our own among them.
import Derived.Test.YtfkhjnmgaadomaaDoorOFnInsTextx0
import Derived.Test.YtfkhjnmgaadomaaDoorOFnInsTextx2
import Derived.Test.YtfkhjnmgaadomaaDoorOFnInsTextx3
namespace Go.Proofs.YtfkhjnmgaadomaaDoor.OFnInsText
open Go.RowKit Go.Proofs.YtfkhjnmgaadomaaDoorW.PrintWords Go.Proofs.YtfkhjnmgaadomaaDoorW.PrintLast Go.Proofs.YtfkhjnmgaadomaaDoorW.PrintMore
attribute [local go_sem] max2_int min2_int max_two min_two max_three min_three max_four min_four   -- for this text's walks alone
set_option linter.unusedVariables false
set_option linter.unusedSimpArgs false

/-! ### impl_decimal: function 49 -/
mutual
def impl_decimal.j0 : Nat → ByteArray → Bool → Option (Int × Bool)
 | 0,_,_ => none
 | k + 1,x0,x22 => if x22 = true then (some (0,false)) else (impl_decimal.l0 k x0 0 (x0.size : Int) 0)
def impl_decimal.l0 : Nat → ByteArray → Int → Int → Int → Option (Int × Bool)
 | 0,_,_,_,_ => none
 | k + 1,x0,x4,x24,x25 => if x25 < x24 then (if 0 ≤ x25 then (if x25 < (x0.size : Int) then (if (bt x0 x25) < 48 then (some (0,false)) else (if (bt x0 x25) > 57 then (some (0,false)) else (impl_decimal.l0 k x0 (wrap64 ((wrap64 (10 * x4)) + (((bt x0 x25) - 48) % 256))) x24 (wrap64 (x25 + 1))))) else (none)) else (none)) else (some (x4,true))
end
def impl_decimal.f (k : Nat) (a0 : ByteArray) : Option (Int × Bool):=if a0.toList = ([] : List UInt8) then (impl_decimal.j0 k a0 true) else (if (a0.size : Int) > 9 then (impl_decimal.j0 k a0 true) else (if (a0.size : Int) > 1 then (if 0 < (a0.size : Int) then (impl_decimal.j0 k a0 ((bt a0 0) == 48)) else (none)) else (impl_decimal.j0 k a0 false)))
theorem impl_decimal.mono_l : ∀ k,(∀ y0 y1,LeO (impl_decimal.j0 k y0 y1) (impl_decimal.j0 (k + 1) y0 y1)) ∧ (∀ y0 y1 y2 y3,LeO (impl_decimal.l0 k y0 y1 y2 y3) (impl_decimal.l0 (k + 1) y0 y1 y2 y3))
 | 0 => ⟨fun _ _ r h => by simp [impl_decimal.j0] at h,fun _ _ _ _ r h => by simp [impl_decimal.l0] at h⟩
 | k + 1 => by
  obtain ⟨ih0,ih1⟩:=impl_decimal.mono_l k
  refine ⟨?_,?_⟩
  ·intro y0 y1
   unfold impl_decimal.j0
   repeat' first
   | (with_reducible exact ih0 _ _)
   | (with_reducible exact ih1 _ _ _ _)
   | (with_reducible exact LeO.refl _)
   | (with_reducible exact LeO.none _)
   | (with_reducible refine LeO.ite ?_ ?_)
   | (with_reducible refine LeO.bind ?_ (fun _ => ?_))
   | exact ih0 _ _
   | exact ih1 _ _ _ _
   | exact LeO.none _
   | refine LeO.ite ?_ ?_
   | refine LeO.bind ?_ (fun _ => ?_)
  ·intro y0 y1 y2 y3
   unfold impl_decimal.l0
   repeat' first
   | (with_reducible exact ih0 _ _)
   | (with_reducible exact ih1 _ _ _ _)
   | (with_reducible exact LeO.refl _)
   | (with_reducible exact LeO.none _)
   | (with_reducible refine LeO.ite ?_ ?_)
   | (with_reducible refine LeO.bind ?_ (fun _ => ?_))
   | exact ih0 _ _
   | exact ih1 _ _ _ _
   | exact LeO.none _
   | refine LeO.ite ?_ ?_
   | refine LeO.bind ?_ (fun _ => ?_)
theorem impl_decimal.mono : ∀ a0 k,LeO (impl_decimal.f k a0) (impl_decimal.f (k + 1) a0):=by
 intro a0 k
 obtain ⟨ih0,ih1⟩:=impl_decimal.mono_l k
 unfold impl_decimal.f
 repeat' first
   | (with_reducible exact ih0 _ _)
   | (with_reducible exact ih1 _ _ _ _)
   | (with_reducible exact LeO.refl _)
   | (with_reducible exact LeO.none _)
   | (with_reducible refine LeO.ite ?_ ?_)
   | (with_reducible refine LeO.bind ?_ (fun _ => ?_))
   | exact ih0 _ _
   | exact ih1 _ _ _ _
   | exact LeO.none _
   | refine LeO.ite ?_ ?_
   | refine LeO.bind ?_ (fun _ => ?_)
set_option maxHeartbeats 8000000 in
set_option maxRecDepth 100000 in
theorem impl_decimal.calls (k : Nat) (a0 : ByteArray) (r1 : Int) (r2 : Bool) (w : World) (h : impl_decimal.f k a0 = some (r1,r2)) :
  Calls Tryd.prog 49 #[.string a0] w fun e w' => e = .returned (.tuple #[.int .i64 r1,.bool r2]) ∧ Drawn0 w w':=by
 have H : (if a0.toList = ([] : List UInt8) then (impl_decimal.j0 k a0 true) else (if (a0.size : Int) > 9 then (impl_decimal.j0 k a0 true) else (if (a0.size : Int) > 1 then (if 0 < (a0.size : Int) then (impl_decimal.j0 k a0 ((bt a0 0) == 48)) else (none)) else (impl_decimal.j0 k a0 false)))) = some (r1,r2):=h
 clear h
 have HC2:=Aside0.mk H
 clear H
 go_enter Tryd.func49,Tryd.ntmps49
 go_upto_region 1 with (fail)
 go_cut [22] (fun v22 wc => ∃ (kq : Nat) (x22_1 : Bool),v22 = .bool x22_1 ∧ Aside0 (impl_decimal.j0 kq a0 x22_1 = some (r1,r2)) ∧ Aside0 (kq ≤ k) ∧ Drawn0 w wc)
 case first =>
  have H:=HC2.out
  clear HC2
  by_cases c3 : a0.toList = ([] : List UInt8)
  ·rw [if_pos c3] at H
   have c3b0 : (a0.toList == ([] : List UInt8)) = true:=beq_iff_eq.mpr c3
   have c3b1 : (a0.toList != ([] : List UInt8)) = false:=bne_eq_false_iff_eq.mpr c3
   clear c3
   (first | rw [c3b0] | (simp only [i64_w,i32_w];rw [c3b0]) | skip)
   have H':=Aside0.mk H
   clear H
   go_wp2
   go_meet
   case rel => exact ⟨_,(true),(by first | rfl | (simp;done) | (simp [*];done)),H',⟨by first | omega | exact Nat.le_refl _⟩,by repeat (first | exact Drawn0.refl _ | apply Drawn0.step)⟩
  ·rw [if_neg c3] at H
   have c3b0 : (a0.toList == ([] : List UInt8)) = false:=beq_eq_false_iff_ne.mpr c3
   have c3b1 : (a0.toList != ([] : List UInt8)) = true:=bne_iff_ne.mpr c3
   (first | rw [c3b0] | (simp only [i64_w,i32_w];rw [c3b0]) | skip)
   by_cases c4 : (a0.size : Int) > 9
   ·rw [if_pos c4] at H
    have c4b0 : decide (9 < (a0.size : Int)) = true:=decide_eq_true c4
    have c4b1 : decide (9 < a0.size) = true:=decide_eq_true (by omega)
    clear c4
    have H':=Aside0.mk H
    clear H
    go_wp2
    go_meet
    case rel => exact ⟨_,(true),(by first | rfl | (simp;done) | (simp [*];done)),H',⟨by first | omega | exact Nat.le_refl _⟩,by repeat (first | exact Drawn0.refl _ | apply Drawn0.step)⟩
   ·rw [if_neg c4] at H
    have c4b0 : decide (9 < (a0.size : Int)) = false:=decide_eq_false c4
    have c4b1 : decide (9 < a0.size) = false:=decide_eq_false (by omega)
    clear c4
    by_cases c5 : (a0.size : Int) > 1
    ·rw [if_pos c5] at H
     have c5b0 : decide (1 < (a0.size : Int)) = true:=decide_eq_true c5
     have c5b1 : decide (1 < a0.size) = true:=decide_eq_true (by omega)
     clear c5
     by_cases c6 : 0 < (a0.size : Int)
     ·rw [if_pos c6] at H
      have c6b0 : decide (0 < (a0.size : Int)) = true:=decide_eq_true c6
      have c6b1 : decide (0 < a0.size) = true:=decide_eq_true (by omega)
      clear c6
      have H':=Aside0.mk H
      clear H
      have p7 : 0 ≤ (0 : Int):=(by omega)
      have q7 : 0 < a0.size:=(by have : (0 : Int) < (a0.size : Int):=Up.od;omega)
      have hx7 : ∀ h : 0 < a0.size,((a0[0]'h).toNat : Int) = bt a0 0:=bt_at a0 0
      clear p7
      have qi7 : (0 < (a0.size : Int)) = True:=eq_true (Up.od)
      replace q7:=eq_true q7
      go_wp2
      go_meet
      case rel => exact ⟨_,(((bt a0 0) == 48)),(by first | rfl | (simp;done) | (simp [*];done)),H',⟨by first | omega | exact Nat.le_refl _⟩,by repeat (first | exact Drawn0.refl _ | apply Drawn0.step)⟩
     ·rw [if_neg c6] at H
      exact absurd H (by simp)
    ·rw [if_neg c5] at H
     have c5b0 : decide (1 < (a0.size : Int)) = false:=decide_eq_false c5
     have c5b1 : decide (1 < a0.size) = false:=decide_eq_false (by omega)
     clear c5
     have H':=Aside0.mk H
     clear H
     go_wp2
     go_meet
     case rel => exact ⟨_,(false),(by first | rfl | (simp;done) | (simp [*];done)),H',⟨by first | omega | exact Nat.le_refl _⟩,by repeat (first | exact Drawn0.refl _ | apply Drawn0.step)⟩
 case rest =>
  clear HC2
  try clear p2
  try clear c3
  try clear c3b0
  try clear c3b1
  try clear c4
  try clear c4b0
  try clear c4b1
  try clear c5
  try clear c5b0
  try clear c5b1
  try clear c6
  try clear c6b0
  try clear c6b1
  try clear p7
  try clear q7
  try clear hx7
  try clear qi7
  try clear p7
  try clear q7
  obtain ⟨kq,x22_1,rfl,HA,HJ1,⟨mc1,rfl⟩⟩:=hcut
  cases kq with
  | zero => exact absurd HA.out (by simp [impl_decimal.j0])
  | succ kj1 =>
   have H:=HA.out
   clear HA
   simp only [impl_decimal.j0] at H
   by_cases c8 : x22_1 = true
   ·subst c8
    have H1 : (some (0,false)) = some (r1,r2):=by rw [if_pos rfl] at H;exact H
    clear H
    have H:=H1
    clear H1
    simp only [Option.some.injEq,Prod.mk.injEq] at H
    obtain ⟨rfl,rfl⟩:=H
    go_wp2
    go_ret2
    exact Up.e2
   ·replace c8:=Bool.eq_false_iff.mpr c8
    subst c8
    have H1 : (impl_decimal.l0 kj1 a0 0 (a0.size : Int) 0) = some (r1,r2):=by rw [if_neg (show ¬ (false = true) by decide)] at H;exact H
    clear H
    have H:=H1
    clear H1
    have H':=Aside0.mk H
    clear H
    go_wp2
    go_loopg [4,25] kj1 (fun kq v4 v25 w' => ∃ (x4_2 : Int) (x25_2 : Int),v4 = .int .i64 x4_2 ∧ v25 = .int .i64 x25_2 ∧ Aside0 (impl_decimal.l0 kq a0 x4_2 (a0.size : Int) x25_2 = some (r1,r2)) ∧ Aside0 (kq ≤ kj1) ∧ Drawn0 w w')
    case atStart => exact ⟨(0),(0),(by first | rfl | (simp;done) | (simp [*];done)),(by first | rfl | (simp;done) | (simp [*];done)),H',⟨Nat.le_refl _⟩,by repeat (first | exact Drawn0.refl _ | apply Drawn0.step)⟩
    case round =>
     clear H'
     try clear c1
     try clear p2
     try clear c3
     try clear c3b0
     try clear c3b1
     try clear c4
     try clear c4b0
     try clear c4b1
     try clear c5
     try clear c5b0
     try clear c5b1
     try clear c6
     try clear c6b0
     try clear c6b1
     try clear p7
     try clear q7
     try clear hx7
     try clear qi7
     try clear c8
     try clear p2
     try clear p7
     try clear q7
     obtain ⟨x4_2,x25_2,rfl,rfl,HA,HK2,⟨m2,rfl⟩⟩:=hrel
     cases gk with
     | zero => exact absurd HA.out (by simp [impl_decimal.l0])
     | succ k2 =>
      have H:=HA.out
      clear HA
      simp only [impl_decimal.l0] at H
      by_cases c9 : x25_2 < (a0.size : Int)
      ·rw [if_pos c9] at H
       have c9b0 : decide (x25_2 < (a0.size : Int)) = true:=decide_eq_true c9
       clear c9
       by_cases c10 : 0 ≤ x25_2
       ·rw [if_pos c10] at H
        have c10b0 : decide (0 ≤ x25_2) = true:=decide_eq_true c10
        clear c10
        by_cases c11 : x25_2 < (a0.size : Int)
        ·rw [if_pos c11] at H
         have c11b0 : decide (x25_2 < (a0.size : Int)) = true:=decide_eq_true c11
         clear c11
         by_cases c13 : (bt a0 x25_2) < 48
         ·rw [if_pos c13] at H
          have c13b0 : decide ((bt a0 x25_2) < 48) = true:=decide_eq_true c13
          clear c13
          simp only [Option.some.injEq,Prod.mk.injEq] at H
          obtain ⟨rfl,rfl⟩:=H
          have p12 : 0 ≤ (x25_2 : Int):=Up.od
          have q12 : x25_2 < (a0.size : Int):=Up.od
          have hx12:=bt_at a0 x25_2
          replace p12:=eq_true p12
          replace q12:=eq_true q12
          go_wp2
          go_ret2
          exact Up.e2
         ·rw [if_neg c13] at H
          have c13b0 : decide ((bt a0 x25_2) < 48) = false:=decide_eq_false c13
          clear c13
          by_cases c15 : (bt a0 x25_2) > 57
          ·rw [if_pos c15] at H
           have c15b0 : decide (57 < (bt a0 x25_2)) = true:=decide_eq_true c15
           clear c15
           simp only [Option.some.injEq,Prod.mk.injEq] at H
           obtain ⟨rfl,rfl⟩:=H
           have p12 : 0 ≤ (x25_2 : Int):=Up.od
           have q12 : x25_2 < (a0.size : Int):=Up.od
           have hx12:=bt_at a0 x25_2
           replace p12:=eq_true p12
           replace q12:=eq_true q12
           have p14 : 0 ≤ (x25_2 : Int):=Up.od
           have q14 : x25_2 < (a0.size : Int):=Up.od
           have hx14:=bt_at a0 x25_2
           replace p14:=eq_true p14
           replace q14:=eq_true q14
           go_wp2
           go_ret2
           exact Up.e2
          ·rw [if_neg c15] at H
           have c15b0 : decide (57 < (bt a0 x25_2)) = false:=decide_eq_false c15
           clear c15
           have H':=Aside0.mk H
           clear H
           have p12 : 0 ≤ (x25_2 : Int):=Up.od
           have q12 : x25_2 < (a0.size : Int):=Up.od
           have hx12:=bt_at a0 x25_2
           replace p12:=eq_true p12
           replace q12:=eq_true q12
           have p14 : 0 ≤ (x25_2 : Int):=Up.od
           have q14 : x25_2 < (a0.size : Int):=Up.od
           have hx14:=bt_at a0 x25_2
           replace p14:=eq_true p14
           replace q14:=eq_true q14
           have p16 : 0 ≤ (x25_2 : Int):=Up.od
           have q16 : x25_2 < (a0.size : Int):=Up.od
           have hx16:=bt_at a0 x25_2
           replace p16:=eq_true p16
           replace q16:=eq_true q16
           go_wp2
           go_roundg k2
           case measure => have:=HJ1.out;have:=HK2.out;omega
           case rel => exact ⟨(wrap64 ((wrap64 (10 * x4_2)) + (((bt a0 x25_2) - 48) % 256))),(wrap64 (x25_2 + 1)),(by first | rfl | (simp;done) | (simp [*];done)),(by first | rfl | (simp;done) | (simp [*];done)),H',⟨by have:=HJ1.out;have:=HK2.out;omega⟩,by repeat (first | exact Drawn0.refl _ | apply Drawn0.step)⟩
        ·rw [if_neg c11] at H
         exact absurd H (by simp)
       ·rw [if_neg c10] at H
        exact absurd H (by simp)
      ·rw [if_neg c9] at H
       have c9b0 : decide (x25_2 < (a0.size : Int)) = false:=decide_eq_false c9
       clear c9
       simp only [Option.some.injEq,Prod.mk.injEq] at H
       obtain ⟨rfl,rfl⟩:=H
       go_wp2
       go_ret2
       exact Up.e2

/-! ### impl_InsRead: function 26 -/
mutual
def impl_InsRead.j0 : Nat → List ByteArray → Bool → Option (ByteArray × Int × Int × Bool)
 | 0,_,_ => none
 | k + 1,x4,x30 => if x30 = true then (some ((⟨#[]⟩ : ByteArray),0,0,false)) else (if 0 < (x4.length : Int) then (if 1 ≤ (x4.length : Int) then ((some (x4.drop 1 : List ByteArray)).bind fun y219 => (impl_InsRead.l0 k y219 (y219.length : Int) 0 (rdOf ByteArray.empty x4 0) 0 0)) else (none)) else (none))
def impl_InsRead.l0 : Nat → List ByteArray → Int → Int → ByteArray → Int → Int → Option (ByteArray × Int × Int × Bool)
 | 0,_,_,_,_,_,_ => none
 | k + 1,x37,x38,x39,x219000,x219001,x219002 => if x39 < x38 then (if 0 ≤ x39 then (if x39 < (x37.length : Int) then ((impl_decimal.f k (rdOf ByteArray.empty x37 x39)).bind fun bt226 => (if bt226.2 = true then (if x39 = 0 then (impl_InsRead.l0 k x37 x38 (wrap64 (x39 + 1)) x219000 bt226.1 x219002) else (impl_InsRead.l0 k x37 x38 (wrap64 (x39 + 1)) x219000 x219001 bt226.1)) else (some ((⟨#[]⟩ : ByteArray),0,0,false)))) else (none)) else (none)) else ((impl_InsOk.f k x219000 x219001 x219002).bind fun t224 => (if t224 = true then (some (x219000,x219001,x219002,true)) else (some ((⟨#[]⟩ : ByteArray),0,0,false))))
end
def impl_InsRead.f (k : Nat) (a0 : ByteArray) : Option (ByteArray × Int × Int × Bool):=(strings_Split.f a0 (⟨#[32]⟩ : ByteArray)).bind fun t207 => (if 0 < (t207.length : Int) then ((impl_formOf.f k (rdOf ByteArray.empty t207 0)).bind fun bt211 => (if bt211.2.2.2 = true then ((impl_insForm_many.f bt211.1 bt211.2.1 bt211.2.2.1).bind fun t216 => (impl_InsRead.j0 k t207 ((t207.length : Int) != (wrap64 (1 + t216))))) else (impl_InsRead.j0 k t207 true))) else (none))
theorem impl_InsRead.mono_l : ∀ k,(∀ y0 y1,LeO (impl_InsRead.j0 k y0 y1) (impl_InsRead.j0 (k + 1) y0 y1)) ∧ (∀ y0 y1 y2 y3 y4 y5,LeO (impl_InsRead.l0 k y0 y1 y2 y3 y4 y5) (impl_InsRead.l0 (k + 1) y0 y1 y2 y3 y4 y5))
 | 0 => ⟨fun _ _ r h => by simp [impl_InsRead.j0] at h,fun _ _ _ _ _ _ r h => by simp [impl_InsRead.l0] at h⟩
 | k + 1 => by
  obtain ⟨ih0,ih1⟩:=impl_InsRead.mono_l k
  refine ⟨?_,?_⟩
  ·intro y0 y1
   unfold impl_InsRead.j0
   repeat' first
   | (with_reducible exact ih0 _ _)
   | (with_reducible exact ih1 _ _ _ _ _ _)
   | (with_reducible exact impl_InsOk.mono _ _ _ _)
   | (with_reducible exact impl_decimal.mono _ _)
   | (with_reducible exact impl_formOf.mono _ _)
   | (with_reducible exact LeO.refl _)
   | (with_reducible exact LeO.none _)
   | (with_reducible refine LeO.ite ?_ ?_)
   | (with_reducible refine LeO.bind ?_ (fun _ => ?_))
   | exact ih0 _ _
   | exact ih1 _ _ _ _ _ _
   | exact impl_InsOk.mono _ _ _ _
   | exact impl_decimal.mono _ _
   | exact impl_formOf.mono _ _
   | exact LeO.none _
   | refine LeO.ite ?_ ?_
   | refine LeO.bind ?_ (fun _ => ?_)
  ·intro y0 y1 y2 y3 y4 y5
   unfold impl_InsRead.l0
   repeat' first
   | (with_reducible exact ih0 _ _)
   | (with_reducible exact ih1 _ _ _ _ _ _)
   | (with_reducible exact impl_InsOk.mono _ _ _ _)
   | (with_reducible exact impl_decimal.mono _ _)
   | (with_reducible exact impl_formOf.mono _ _)
   | (with_reducible exact LeO.refl _)
   | (with_reducible exact LeO.none _)
   | (with_reducible refine LeO.ite ?_ ?_)
   | (with_reducible refine LeO.bind ?_ (fun _ => ?_))
   | exact ih0 _ _
   | exact ih1 _ _ _ _ _ _
   | exact impl_InsOk.mono _ _ _ _
   | exact impl_decimal.mono _ _
   | exact impl_formOf.mono _ _
   | exact LeO.none _
   | refine LeO.ite ?_ ?_
   | refine LeO.bind ?_ (fun _ => ?_)
theorem impl_InsRead.mono : ∀ a0 k,LeO (impl_InsRead.f k a0) (impl_InsRead.f (k + 1) a0):=by
 intro a0 k
 obtain ⟨ih0,ih1⟩:=impl_InsRead.mono_l k
 unfold impl_InsRead.f
 repeat' first
   | (with_reducible exact ih0 _ _)
   | (with_reducible exact ih1 _ _ _ _ _ _)
   | (with_reducible exact impl_InsOk.mono _ _ _ _)
   | (with_reducible exact impl_decimal.mono _ _)
   | (with_reducible exact impl_formOf.mono _ _)
   | (with_reducible exact LeO.refl _)
   | (with_reducible exact LeO.none _)
   | (with_reducible refine LeO.ite ?_ ?_)
   | (with_reducible refine LeO.bind ?_ (fun _ => ?_))
   | exact ih0 _ _
   | exact ih1 _ _ _ _ _ _
   | exact impl_InsOk.mono _ _ _ _
   | exact impl_decimal.mono _ _
   | exact impl_formOf.mono _ _
   | exact LeO.none _
   | refine LeO.ite ?_ ?_
   | refine LeO.bind ?_ (fun _ => ?_)
set_option maxHeartbeats 8000000 in
set_option maxRecDepth 100000 in
theorem impl_InsRead.calls (k : Nat) (a0 : ByteArray) (r1 : ByteArray) (r2 : Int) (r3 : Int) (r4 : Bool) (w : World) (hT_ : Tab w) (h : impl_InsRead.f k a0 = some (r1,r2,r3,r4)) :
  Calls Tryd.prog 26 #[.string a0] w fun e w' => e = .returned (.tuple #[.agg #[.string r1,.int .i64 r2,.int .i64 r3],.bool r4]) ∧ Below w.heap.size w w':=by
 have hu26:=Tryd.underlying26
 have hu46:=Tryd.underlying46
 have HB:=Aside0.mk (Below.refl w.heap.size w)
 have H : ((strings_Split.f a0 (⟨#[32]⟩ : ByteArray)).bind fun t207 => (if 0 < (t207.length : Int) then ((impl_formOf.f k (rdOf ByteArray.empty t207 0)).bind fun bt211 => (if bt211.2.2.2 = true then ((impl_insForm_many.f bt211.1 bt211.2.1 bt211.2.2.1).bind fun t216 => (impl_InsRead.j0 k t207 ((t207.length : Int) != (wrap64 (1 + t216))))) else (impl_InsRead.j0 k t207 true))) else (none))) = some (r1,r2,r3,r4):=h
 clear h
 replace H:=Option.bind_eq_some_iff.mp H
 obtain ⟨t207,A20,H⟩:=H
 replace H : (if 0 < (t207.length : Int) then ((impl_formOf.f k (rdOf ByteArray.empty t207 0)).bind fun bt211 => (if bt211.2.2.2 = true then ((impl_insForm_many.f bt211.1 bt211.2.1 bt211.2.2.1).bind fun t216 => (impl_InsRead.j0 k t207 ((t207.length : Int) != (wrap64 (1 + t216))))) else (impl_InsRead.j0 k t207 true))) else (none)) = some (r1,r2,r3,r4):=H
 have A2:=Aside0.mk A20
 clear A20
 by_cases c3 : 0 < (t207.length : Int)
 ·rw [if_pos c3] at H
  have c3b0 : decide (0 < (t207.length : Int)) = true:=decide_eq_true c3
  have c3b1 : decide (0 < t207.length) = true:=decide_eq_true (by omega)
  clear c3
  replace H:=Option.bind_eq_some_iff.mp H
  obtain ⟨⟨t211,t212,t213,t214⟩,A40,H⟩:=H
  replace H : (if t214 = true then ((impl_insForm_many.f t211 t212 t213).bind fun t216 => (impl_InsRead.j0 k t207 ((t207.length : Int) != (wrap64 (1 + t216))))) else (impl_InsRead.j0 k t207 true)) = some (r1,r2,r3,r4):=H
  have A4:=Aside0.mk A40
  clear A40
  have HC5:=Aside0.mk H
  clear H
  go_enter Tryd.func26,Tryd.ntmps26
  go_upto_region 3 with (first | ((with_reducible refine gate_dst (N:=2) rfl ?_);(try (refine gate_guard (by rfl) ?_;dsimp only));refine Up.bx 2 26 #[.string (⟨#[]⟩ : ByteArray),.int .i64 0,.int .i64 0] ?_;intro gb206 hg w6 hbox hb;have n0_:=Up.BB HB hb;have n1_:=Aside0.mk (hbox);have n2_:=Up.gw hg HB;have n3_:=Up.gw hg HB;clear HB;have HB:=n0_;have BK206:=n1_;have GW206:=n2_;have GE206:=n3_;clear n0_ n1_ n2_ n3_ hb hbox hg) | ((with_reducible refine gate_callee (f:=47) rfl ?_);refine Up.gl (some 13) Tryd.func47 #[.string a0,.string (⟨#[32]⟩ : ByteArray)] ?_;(with_reducible refine (strings_Split.calls (hT_:=?tab1) a0 (⟨#[32]⟩ : ByteArray) t207 _ A2.out).mono ?_);(case tab1 => exact hT_.below (Up.Bx HB));rintro e w7 ⟨v208,rfl,ho0,hb⟩;refine ⟨_,rfl,?_⟩;have n0_:=Aside0.mk (Kd.V_lower (Kd.V_mono (ok':=fun k_ => k_ ≠ gb206) ho0 (fun k_ hk_ => (Kd.freshB (g:=gb206) (o:=.cells #[.string (⟨#[]⟩ : ByteArray),.int .i64 0,.int .i64 0] 26 (0,0)) (Up.Kup BK206) k_ hk_))) (below_size (Up.Bx HB)));have n1_:=Up.KB BK206 hb;have n2_:=Aside0.mk (below_step (Up.Bx HB) hb);clear BK206 HB;have HO209:=n0_;have BK206:=n1_;have HB:=n2_;clear n0_ n1_ n2_;(try clear hb);(try clear hb2);(try clear hk);(try clear hi);(try clear ho0);obtain ⟨Ao8,co8,eo8⟩:=Kd.V_slice HO209.out;subst eo8;have p210 : 0 ≤ (0 : Int):=(by omega);have q210 : 0 < (t207.length : Int):=Up.od;obtain ⟨ad210,e210,hx210_0⟩:=Kd.at_string (Kd.V_reads' HO209.out).2.2 0 p210 q210;cases e210;have qi210 : (0 < t207.length) = True:=eq_true (by omega);(try rw [show ((0 : Int)).toNat = 0 from rfl] at hx210_0);(try rw [Addr.add_zero'] at hx210_0);replace p210:=eq_true p210;replace q210:=eq_true q210) | ((with_reducible refine gate_callee (f:=32) rfl ?_);refine Up.gl (some 18) Tryd.func32 #[.string (rdOf ByteArray.empty t207 0)] ?_;(with_reducible refine (impl_formOf.calls (hT_:=?tab1) k (rdOf ByteArray.empty t207 0) t211 t212 t213 t214 _ A4.out).mono ?_);(case tab1 => exact hT_.below (Up.Bx HB));rintro e w9 ⟨rfl,hb⟩;refine ⟨_,rfl,?_⟩;have n0_:=Up.VB HO209 hb;have n1_:=Up.KB BK206 hb;have n2_:=Aside0.mk (below_step (Up.Bx HB) hb);clear HO209 BK206 HB;have HO209:=n0_;have BK206:=n1_;have HB:=n2_;clear n0_ n1_ n2_;(try clear hb);(try clear hb2);(try clear hk);(try clear hi)) | ((with_reducible refine gate_dst (N:=5) rfl ?_);(try (refine gate_guard (by rfl) ?_;dsimp only));refine Up.bx 5 46 #[.string (⟨#[]⟩ : ByteArray),.int .i64 0,.int .i64 0] ?_;intro gb215 hg w10 hbox hb;have n0_:=Aside0.mk (Kd.V_below (Kd.V_elderB (Up.Vup HO209) gb215 (Nat.le_of_eq hg.symm)) hb);have n1_:=Up.KB BK206 hb;have n2_:=Aside0.mk (below_step (Up.Bx HB) hb);have n3_:=Aside0.mk (hbox);have n4_:=Up.gw hg HB;have n5_:=Up.gw hg HB;have n6_:=Up.nl hg BK206;have n7_:=Up.ng hg BK206;clear HO209 BK206 HB;have HO209:=n0_;have BK206:=n1_;have HB:=n2_;have BK215:=n3_;have GW215:=n4_;have GE215:=n5_;have NB206_215:=n6_;have NB215_206:=n7_;clear n0_ n1_ n2_ n3_ n4_ n5_ n6_ n7_ hb hbox hg;have hnb11:=NB215_206.out;have hnc11:=NB206_215.out;have hcz12_0:=Up.c0 BK215;have hcz12_1:=Up.c1 BK215;have hcz12_2:=Up.c2 BK215;have hfz12_0:=blk_frozen BK215.out 0;have hfz12_1:=blk_frozen BK215.out 1;have hfz12_2:=blk_frozen BK215.out 2))
  (try simp only [Act.put,List.setIfInBounds_toArray,List.set_cons_zero,List.set_cons_succ])
  go_cut [30] (fun v30 wc => ∃ (kq : Nat) (x30_4 : Bool),v30 = .bool x30_4 ∧ Aside0 (impl_InsRead.j0 kq t207 x30_4 = some (r1,r2,r3,r4)) ∧ Aside0 (kq ≤ k) ∧ Aside0 (Kd.V Kd.string 9 wc w.heap.size (fun k_ => k_ ≠ gb206 ∧ k_ ≠ gb215) (.slice (some ad210) t207.length co8) t207) ∧ Aside0 (wc.heap[gb206]? = some (.cells #[.string (⟨#[]⟩ : ByteArray),.int .i64 0,.int .i64 0] 26 (0,0))) ∧ Aside0 (wc.heap[gb215]? = some (.cells #[.string t211,.int .i64 t212,.int .i64 t213] 46 (0,0))) ∧ Aside0 (Below w.heap.size w wc))
  case first =>
   have H:=HC5.out
   clear HC5
   by_cases c13 : t214 = true
   ·subst c13
    have H1 : ((impl_insForm_many.f t211 t212 t213).bind fun t216 => (impl_InsRead.j0 k t207 ((t207.length : Int) != (wrap64 (1 + t216))))) = some (r1,r2,r3,r4):=by rw [if_pos rfl] at H;exact H
    clear H
    have H:=H1
    clear H1
    replace H:=Option.bind_eq_some_iff.mp H
    obtain ⟨t216,A140,H⟩:=H
    replace H : (impl_InsRead.j0 k t207 ((t207.length : Int) != (wrap64 (1 + t216)))) = some (r1,r2,r3,r4):=H
    have A14:=Aside0.mk A140
    clear A140
    have H':=Aside0.mk H
    clear H
    have hnb15:=NB215_206.out
    have hnc15:=NB206_215.out
    have hcz16_0:=Up.c0 BK215
    have hcz16_1:=Up.c1 BK215
    have hcz16_2:=Up.c2 BK215
    have hfz16_0:=blk_frozen BK215.out 0
    have hfz16_1:=blk_frozen BK215.out 1
    have hfz16_2:=blk_frozen BK215.out 2
    go_wp2_with (first | (go_at_call 48;(with_reducible refine (impl_insForm_many.calls t211 t212 t213 t216 _ A14.out).mono ?_);rintro e w17 ⟨rfl,hb⟩;have n0_:=Aside0.mk (Kd.V_below (by (with_reducible repeat (first | apply Kd.V_alloc | apply Kd.V_drewN | apply Kd.V_drew));exact (Kd.V_mono (Kd.V_far (p:=⟨gb215,2,none⟩) (Kd.V_far (p:=⟨gb215,1,none⟩) (Kd.V_far (p:=⟨gb215,0,none⟩) (Kd.V_mono HO209.out (fun k_ hk => (⟨hk,hk.2⟩ : _ ∧ k_ ≠ gb215))) (fun _ hk => hk.2) (.string t211)) (fun _ hk => hk.2) (.int .i64 t212)) (fun _ hk => hk.2) (.int .i64 t213)) (fun _ h_ => h_.1))) hb);have n1_:=Aside0.mk (blk_below (g:=gb206) (o:=.cells #[.string (⟨#[]⟩ : ByteArray),.int .i64 0,.int .i64 0] 26 (0,0)) (Up.Kx BK206) hb);have n2_:=Aside0.mk (blk_below (g:=gb215) (o:=.cells #[.string t211,.int .i64 t212,.int .i64 t213] 46 (0,0)) (Up.Kx BK215) hb);have n3_:=Aside0.mk (below_step (Up.Bx HB) hb);clear HO209 BK206 BK215 HB;have HO209:=n0_;have BK206:=n1_;have BK215:=n2_;have HB:=n3_;clear n0_ n1_ n2_ n3_;(try clear hb);(try clear hb2);(try clear hk);(try clear hi)))
    go_meet
    case rel => exact ⟨_,(((t207.length : Int) != (wrap64 (1 + t216)))),(by first | rfl | (simp;done) | (simp [*];done)),H',⟨by first | omega | exact Nat.le_refl _⟩,⟨Up.Vup HO209⟩,⟨by (with_reducible repeat (first | refine blk_drewN ?_ _ | refine blk_drew ?_ | refine blk_alloc ?_ _));exact BK206.out⟩,⟨by (with_reducible repeat (first | refine blk_drewN ?_ _ | refine blk_drew ?_ | refine blk_alloc ?_ _));exact BK215.out⟩,⟨Up.Bx HB⟩⟩
   ·replace c13:=Bool.eq_false_iff.mpr c13
    subst c13
    have H1 : (impl_InsRead.j0 k t207 true) = some (r1,r2,r3,r4):=by rw [if_neg (show ¬ (false = true) by decide)] at H;exact H
    clear H
    have H:=H1
    clear H1
    have H':=Aside0.mk H
    clear H
    go_wp2
    go_meet
    case rel => exact ⟨_,(true),(by first | rfl | (simp;done) | (simp [*];done)),H',⟨by first | omega | exact Nat.le_refl _⟩,⟨by (with_reducible repeat (first | apply Kd.V_alloc | apply Kd.V_drewN | apply Kd.V_drew));exact Kd.V_mono (Kd.V_far (p:=⟨gb215,2,none⟩) (Kd.V_far (p:=⟨gb215,1,none⟩) (Kd.V_far (p:=⟨gb215,0,none⟩) (Kd.V_mono HO209.out (fun k_ hk => (⟨hk,hk.2⟩ : _ ∧ k_ ≠ gb215))) (fun _ hk => hk.2) (.string t211)) (fun _ hk => hk.2) (.int .i64 t212)) (fun _ hk => hk.2) (.int .i64 t213)) (fun _ hk => ⟨hk.1.1,hk.1.2⟩)⟩,⟨by (with_reducible repeat (first | refine blk_drewN ?_ _ | refine blk_drew ?_ | refine blk_alloc ?_ _));refine blk_far ?_ NB206_215.out _;(with_reducible repeat (first | refine blk_drewN ?_ _ | refine blk_drew ?_ | refine blk_alloc ?_ _));refine blk_far ?_ NB206_215.out _;(with_reducible repeat (first | refine blk_drewN ?_ _ | refine blk_drew ?_ | refine blk_alloc ?_ _));refine blk_far ?_ NB206_215.out _;(with_reducible repeat (first | refine blk_drewN ?_ _ | refine blk_drew ?_ | refine blk_alloc ?_ _));exact BK206.out⟩,⟨by (with_reducible repeat (first | refine blk_drewN ?_ _ | refine blk_drew ?_ | refine blk_alloc ?_ _));refine blk_put (cs:=#[.string t211,.int .i64 t212,.int .i64 0]) ?_ 2 _ rfl;(with_reducible repeat (first | refine blk_drewN ?_ _ | refine blk_drew ?_ | refine blk_alloc ?_ _));refine blk_put (cs:=#[.string t211,.int .i64 0,.int .i64 0]) ?_ 1 _ rfl;(with_reducible repeat (first | refine blk_drewN ?_ _ | refine blk_drew ?_ | refine blk_alloc ?_ _));refine blk_put (cs:=#[.string (⟨#[]⟩ : ByteArray),.int .i64 0,.int .i64 0]) ?_ 0 _ rfl;(with_reducible repeat (first | refine blk_drewN ?_ _ | refine blk_drew ?_ | refine blk_alloc ?_ _));exact BK215.out⟩,⟨Up.Bx HB⟩⟩
  case rest =>
   clear HC5
   try clear c1
   try clear c2
   try clear p2
   try clear q2
   try clear hx2
   try clear qi2
   try clear c3
   try clear c3b0
   try clear c3b1
   try clear c4
   try clear p6
   try clear c11
   try clear c13
   try clear c15
   try clear hcz12_0
   try clear hcz12_1
   try clear hcz12_2
   try clear hcz16_0
   try clear hcz16_1
   try clear hcz16_2
   try clear hfz12_0
   try clear hfz12_1
   try clear hfz12_2
   try clear hfz16_0
   try clear hfz16_1
   try clear hfz16_2
   try clear hx210_0
   try clear p210
   try clear q210
   obtain ⟨kq,x30_4,rfl,HA,HJ4,HO_4,BK206,BK215,HB⟩:=hcut
   cases kq with
   | zero => exact absurd HA.out (by simp [impl_InsRead.j0])
   | succ kj4 =>
    have H:=HA.out
    clear HA
    simp only [impl_InsRead.j0] at H
    by_cases c18 : x30_4 = true
    ·subst c18
     have H1 : (some ((⟨#[]⟩ : ByteArray),0,0,false)) = some (r1,r2,r3,r4):=by rw [if_pos rfl] at H;exact H
     clear H
     have H:=H1
     clear H1
     simp only [Option.some.injEq,Prod.mk.injEq] at H
     obtain ⟨rfl,rfl,rfl,rfl⟩:=H
     have hnb19:=NB206_215.out
     have hnc19:=NB215_206.out
     have hcz20_0:=Up.c0 BK206
     have hcz20_1:=Up.c1 BK206
     have hcz20_2:=Up.c2 BK206
     have hfz20_0:=blk_frozen BK206.out 0
     have hfz20_1:=blk_frozen BK206.out 1
     have hfz20_2:=blk_frozen BK206.out 2
     go_wp2
     refine bodyPost_ret (results_ct rfl _ _ gb206 26 #[.string (⟨#[]⟩ : ByteArray),.int .i64 0,.int .i64 0] (0,0) _ rfl (Up.Kx BK206) Tryd.underlying26 rfl (by kernel_rfl)) rfl ?_
     exact Up.e1 (Up.Bx HB)
    ·replace c18:=Bool.eq_false_iff.mpr c18
     subst c18
     have H1 : (if 0 < (t207.length : Int) then (if 1 ≤ (t207.length : Int) then ((some (t207.drop 1 : List ByteArray)).bind fun y219 => (impl_InsRead.l0 kj4 y219 (y219.length : Int) 0 (rdOf ByteArray.empty t207 0) 0 0)) else (none)) else (none)) = some (r1,r2,r3,r4):=by rw [if_neg (show ¬ (false = true) by decide)] at H;exact H
     clear H
     have H:=H1
     clear H1
     by_cases c21 : 0 < (t207.length : Int)
     ·rw [if_pos c21] at H
      have c21b0 : decide (0 < (t207.length : Int)) = true:=decide_eq_true c21
      have c21b1 : decide (0 < t207.length) = true:=decide_eq_true (by omega)
      clear c21
      by_cases c22 : 1 ≤ (t207.length : Int)
      ·rw [if_pos c22] at H
       have c22b0:=eq_true c22
       have c22b1 : decide (1 ≤ (t207.length : Int)) = true:=decide_eq_true c22
       clear c22
       obtain ⟨y219,hy219⟩ : ∃ y_ : List ByteArray,y_ = (t207.drop 1):=⟨_,rfl⟩
       replace H : (impl_InsRead.l0 kj4 y219 (y219.length : Int) 0 (rdOf ByteArray.empty t207 0) 0 0) = some (r1,r2,r3,r4):=by first | (rw [hy219];with_reducible exact H) | (have H2_:=(Option.bind_some _ _).symm.trans H;rw [hy219];with_reducible exact H2_) | (have H2_:=(Option.bind_some _ _).symm.trans H;with_reducible exact H2_) | with_reducible exact H | (rw [hy219];exact H) | exact H
       have Ny219:=Aside0.mk hy219
       clear hy219
       have H':=Aside0.mk H
       clear H
       have p217 : 0 ≤ (0 : Int):=(by omega)
       have q217 : 0 < (t207.length : Int):=Up.od
       obtain ⟨ad217,e217,hx217_0⟩:=Kd.at_string (Kd.V_reads' HO_4.out).2.2 0 p217 q217
       obtain rfl : ad210 = ad217:=(by injection e217)
       have qi217 : (0 < t207.length) = True:=eq_true (by omega)
       (try rw [show ((0 : Int)).toNat = 0 from rfl] at hx217_0)
       (try rw [Addr.add_zero'] at hx217_0)
       replace p217:=eq_true p217
       replace q217:=eq_true q217
       go_wp2_with (first | ((with_reducible refine gate_dst (N:=7) rfl ?_);(try (refine gate_guard (by rfl) ?_;dsimp only));refine Up.bx 7 26 #[.string (⟨#[]⟩ : ByteArray),.int .i64 0,.int .i64 0] ?_;intro gb218 hg w23 hbox hb;have n0_:=Aside0.mk (Kd.V_below (Kd.V_elderB (Up.Vup HO_4) gb218 (Nat.le_of_eq hg.symm)) hb);have n1_:=Up.KB BK206 hb;have n2_:=Up.KB BK215 hb;have n3_:=Aside0.mk (below_step (Up.Bx HB) hb);have n4_:=Aside0.mk (hbox);have n5_:=Up.gw hg HB;have n6_:=Up.gw hg HB;have n7_:=Up.nl hg BK206;have n8_:=Up.ng hg BK206;have n9_:=Up.nl hg BK215;have n10_:=Up.ng hg BK215;clear HO_4 BK206 BK215 HB;have HO_4:=n0_;have BK206:=n1_;have BK215:=n2_;have HB:=n3_;have BK218:=n4_;have GW218:=n5_;have GE218:=n6_;have NB206_218:=n7_;have NB218_206:=n8_;have NB215_218:=n9_;have NB218_215:=n10_;clear n0_ n1_ n2_ n3_ n4_ n5_ n6_ n7_ n8_ n9_ n10_ hb hbox hg;have hnb24:=NB218_206.out;have hnc24:=NB206_218.out;have hnb25:=NB218_215.out;have hnc25:=NB215_218.out;have hcz26_0:=Up.c0 BK218;have hcz26_1:=Up.c1 BK218;have hcz26_2:=Up.c2 BK218;have hfz26_0:=blk_frozen BK218.out 0;have hfz26_1:=blk_frozen BK218.out 1;have hfz26_2:=blk_frozen BK218.out 2) | ((with_reducible refine gate_store (t:=26) (p:=7) rfl ?_);refine store_event (t:=26) (p:=7) (v:=?vo_w27) (w1:=(((w23.setCell ⟨gb218,0,none⟩ (.string (rdOf ByteArray.empty t207 0))).setCell ⟨gb218,1,none⟩ (.int .i64 0)).setCell ⟨gb218,2,none⟩ (.int .i64 0))) ?hg ?ho ?hn ?hr ?_;(case ho => rfl);(case hg => rfl);(case hn => rfl);(case hr => first | (go_simp;done) | (go_simp;rfl));intro w27 hw;have n0_ : Aside0 (Kd.V Kd.string 9 w27 w.heap.size (fun k_ => k_ ≠ gb206 ∧ k_ ≠ gb215 ∧ k_ ≠ gb218) (.slice (some ad210) t207.length co8) t207):=⟨(by rw [hw];exact (Up.Vq (Kd.V_mono (Kd.V_far (p:=⟨gb218,2,none⟩) (Kd.V_far (p:=⟨gb218,1,none⟩) (Kd.V_far (p:=⟨gb218,0,none⟩) (Kd.V_mono HO_4.out (fun k_ hk => (⟨hk,hk.2⟩ : _ ∧ k_ ≠ gb218))) (fun _ hk => hk.2) (.string (rdOf ByteArray.empty t207 0))) (fun _ hk => hk.2) (.int .i64 0)) (fun _ hk => hk.2) (.int .i64 0)) (fun _ hk => ⟨hk.1.1.1,⟨hk.1.1.2,hk.1.2⟩⟩))))⟩;have n1_ : Aside0 (w27.heap[gb206]? = some (.cells #[.string (⟨#[]⟩ : ByteArray),.int .i64 0,.int .i64 0] 26 (0,0))):=⟨(by rw [hw];exact (Up.Kx BK206))⟩;have n2_ : Aside0 (w27.heap[gb215]? = some (.cells #[.string t211,.int .i64 t212,.int .i64 t213] 46 (0,0))):=⟨(by rw [hw];exact (Up.Kx BK215))⟩;have n3_ : Aside0 (w27.heap[gb218]? = some (.cells #[.string (rdOf ByteArray.empty t207 0),.int .i64 0,.int .i64 0] 26 (0,0))):=⟨(by rw [hw];exact (Up.Kx BK218))⟩;have n4_ : Aside0 (Below w.heap.size w w27):=⟨(by rw [hw];exact (Up.Bx HB))⟩;clear hw HO_4 BK206 BK215 BK218 HB;have HO_4:=n0_;have BK206:=n1_;have BK215:=n2_;have BK218:=n3_;have HB:=n4_;clear n0_ n1_ n2_ n3_ n4_;have q28 : (1 : Int) ≤ ((t207.length : Int) : Int):=Up.od;obtain ⟨i028,hi028,_,hsz28,_⟩:=info_parts info9;have hroom28 : t207.length ≤ co8:=(Kd.V_reads' HO_4.out).2.1;have hC28 : Kd.F Kd.string _ _ (some ad210) t207.length t207:=(Kd.V_at (base:=w.heap.size) HO_4.out).2.2;have hcut28:=cut_from (P:=Tryd.prog) 30 9 .i64 Tryd.underlying30 hi028 1 hsz28 (some ad210) t207.length co8 1 (by omega) q28;have hr28:=Kd.F_cut (m:=(1 : Int).toNat) (c:=co8) hC28 (by omega) hroom28;obtain ⟨A28,hA28⟩ : ∃ A1,A1 = (if co8 = (1 : Int).toNat then (some ad210) else ((some ad210) : Option Addr).map (·.add ((1 : Int).toNat * 1))):=⟨_,rfl⟩;obtain ⟨c28,hc28⟩ : ∃ c1,c1 = co8 - (1 : Int).toNat:=⟨_,rfl⟩;have hy28 : y219.length = t207.length - (1 : Int).toNat:=(by rw [Ny219.out,List.length_drop] <;> omega);rw [show (t207).drop (1 : Int).toNat = y219 from Ny219.out.symm] at hr28;replace hr28 : Kd.F Kd.string _ _ A28 y219.length y219:=(by rw [hA28];exact hr28);rw [← hy28,← hA28,← hc28] at hcut28;have HO223:=Aside0.mk (show Kd.V Kd.string 9 _ w.heap.size _ (.slice A28 y219.length c28) y219 from Kd.V_mk (by rw [hy28,hc28];exact Nat.sub_le_sub_right hroom28 _) hr28);have HC223:=Aside0.mk (show y219.length ≤ c28 from by rw [hy28,hc28];exact Nat.sub_le_sub_right hroom28 _);clear hr28 hC28 hroom28 hi028 hsz28 hc28;have KY28:=Aside0.mk hy28;have KA28:=Aside0.mk hA28;clear hy28 hA28;replace q28:=eq_true q28))
       go_loopg [39] kj4 (fun kq v39 w' => ∃ (x39_2 : Int) (x207000_2 : ByteArray) (x207001_2 : Int) (x207002_2 : Int) (x219001_2 : Int) (x219002_2 : Int),v39 = .int .i64 x39_2 ∧ Aside0 (impl_InsRead.l0 kq y219 (y219.length : Int) x39_2 (rdOf ByteArray.empty t207 0) x219001_2 x219002_2 = some (r1,r2,r3,r4)) ∧ Aside0 (kq ≤ kj4) ∧ Aside0 (Kd.V Kd.string 9 w' w.heap.size (fun k_ => k_ ≠ gb206 ∧ k_ ≠ gb215 ∧ k_ ≠ gb218) (.slice A28 y219.length c28) y219) ∧ Aside0 (w'.heap[gb206]? = some (.cells #[.string x207000_2,.int .i64 x207001_2,.int .i64 x207002_2] 26 (0,0))) ∧ Aside0 (w'.heap[gb215]? = some (.cells #[.string t211,.int .i64 t212,.int .i64 t213] 46 (0,0))) ∧ Aside0 (w'.heap[gb218]? = some (.cells #[.string (rdOf ByteArray.empty t207 0),.int .i64 x219001_2,.int .i64 x219002_2] 26 (0,0))) ∧ Aside0 (Below w.heap.size w w'))
       case atStart => exact ⟨(0),((⟨#[]⟩ : ByteArray)),(0),(0),(0),(0),(by first | rfl | (simp;done) | (simp [*];done)),H',⟨Nat.le_refl _⟩,⟨Up.Vup HO223⟩,⟨by (with_reducible repeat (first | refine blk_drewN ?_ _ | refine blk_drew ?_ | refine blk_alloc ?_ _));exact BK206.out⟩,⟨by (with_reducible repeat (first | refine blk_drewN ?_ _ | refine blk_drew ?_ | refine blk_alloc ?_ _));exact BK215.out⟩,⟨by (with_reducible repeat (first | refine blk_drewN ?_ _ | refine blk_drew ?_ | refine blk_alloc ?_ _));exact BK218.out⟩,⟨Up.Bx HB⟩⟩
       case round =>
        clear H'
        try clear c1
        try clear c2
        try clear p2
        try clear q2
        try clear hx2
        try clear qi2
        try clear c3
        try clear c3b0
        try clear c3b1
        try clear c4
        try clear p6
        try clear c11
        try clear c13
        try clear c15
        try clear c18
        try clear c19
        try clear c21
        try clear c21b0
        try clear c21b1
        try clear p21
        try clear q21
        try clear hx21
        try clear qi21
        try clear c22
        try clear c22b0
        try clear c22b1
        try clear c24
        try clear c25
        try clear c26
        try clear c28
        try clear q28
        try clear hcz12_0
        try clear hcz12_1
        try clear hcz12_2
        try clear hcz16_0
        try clear hcz16_1
        try clear hcz16_2
        try clear hcz20_0
        try clear hcz20_1
        try clear hcz20_2
        try clear hcz26_0
        try clear hcz26_1
        try clear hcz26_2
        try clear hfz12_0
        try clear hfz12_1
        try clear hfz12_2
        try clear hfz16_0
        try clear hfz16_1
        try clear hfz16_2
        try clear hfz20_0
        try clear hfz20_1
        try clear hfz20_2
        try clear hfz26_0
        try clear hfz26_1
        try clear hfz26_2
        try clear hx210_0
        try clear hx217_0
        try clear p2
        try clear p210
        try clear p217
        try clear p6
        try clear q2
        try clear q210
        try clear q217
        try clear q28
        obtain ⟨x39_2,x207000_2,x207001_2,x207002_2,x219001_2,x219002_2,rfl,HA,HK2,HO_37,BK206,BK215,BK218,HB⟩:=hrel
        cases gk with
        | zero => exact absurd HA.out (by simp [impl_InsRead.l0])
        | succ k2 =>
         have H:=HA.out
         clear HA
         simp only [impl_InsRead.l0] at H
         by_cases c29 : x39_2 < (y219.length : Int)
         ·rw [if_pos c29] at H
          have c29b0 : decide (x39_2 < (y219.length : Int)) = true:=decide_eq_true c29
          clear c29
          by_cases c30 : 0 ≤ x39_2
          ·rw [if_pos c30] at H
           have c30b0 : decide (0 ≤ x39_2) = true:=decide_eq_true c30
           clear c30
           by_cases c31 : x39_2 < (y219.length : Int)
           ·rw [if_pos c31] at H
            have c31b0 : decide (x39_2 < (y219.length : Int)) = true:=decide_eq_true c31
            clear c31
            replace H:=Option.bind_eq_some_iff.mp H
            obtain ⟨⟨t226,t227⟩,A320,H⟩:=H
            replace H : (if t227 = true then (if x39_2 = 0 then (impl_InsRead.l0 k2 y219 (y219.length : Int) (wrap64 (x39_2 + 1)) (rdOf ByteArray.empty t207 0) t226 x219002_2) else (impl_InsRead.l0 k2 y219 (y219.length : Int) (wrap64 (x39_2 + 1)) (rdOf ByteArray.empty t207 0) x219001_2 t226)) else (some ((⟨#[]⟩ : ByteArray),0,0,false))) = some (r1,r2,r3,r4):=H
            have A32:=Aside0.mk A320
            clear A320
            by_cases c33 : t227 = true
            ·subst c33
             have H1 : (if x39_2 = 0 then (impl_InsRead.l0 k2 y219 (y219.length : Int) (wrap64 (x39_2 + 1)) (rdOf ByteArray.empty t207 0) t226 x219002_2) else (impl_InsRead.l0 k2 y219 (y219.length : Int) (wrap64 (x39_2 + 1)) (rdOf ByteArray.empty t207 0) x219001_2 t226)) = some (r1,r2,r3,r4):=by rw [if_pos rfl] at H;exact H
             clear H
             have H:=H1
             clear H1
             by_cases c34 : x39_2 = 0
             ·rw [if_pos c34] at H
              have c34b0 : (x39_2 == 0) = true:=beq_iff_eq.mpr c34
              have c34b1 : (x39_2 != 0) = false:=bne_eq_false_iff_eq.mpr c34
              clear c34
              have H':=Aside0.mk H
              clear H
              have p225 : 0 ≤ (x39_2 : Int):=Up.od
              have q225 : x39_2 < (y219.length : Int):=Up.od
              obtain ⟨ad225,e225,hx225_0⟩:=Kd.at_string (Kd.V_reads' HO_37.out).2.2 x39_2 p225 q225
              cases e225
              replace p225:=eq_true p225
              replace q225:=eq_true q225
              go_wp2_with (first | ((with_reducible refine gate_callee (f:=49) rfl ?_);refine Up.gl (some 46) Tryd.func49 #[.string (rdOf ByteArray.empty y219 x39_2)] ?_;(with_reducible refine (impl_decimal.calls k2 (rdOf ByteArray.empty y219 x39_2) t226 true _ A32.out).mono ?_);rintro e w' ⟨rfl,⟨nd,rfl⟩⟩;refine ⟨_,rfl,?_⟩;(try (rw [drewN_self wr];generalize hq_ : World.drewN wr _ = wr;have n0_ : Aside0 (Kd.V Kd.string 9 wr w.heap.size (fun k_ => k_ ≠ gb206 ∧ k_ ≠ gb215 ∧ k_ ≠ gb218) (.slice (some ad225) y219.length c28) y219):=⟨by rw [← hq_];exact (Up.Vup HO_37)⟩;have n1_ : Aside0 (wr.heap[gb206]? = some (.cells #[.string x207000_2,.int .i64 x207001_2,.int .i64 x207002_2] 26 (0,0))):=⟨by rw [← hq_];exact (Up.Kup BK206)⟩;have n2_ : Aside0 (wr.heap[gb215]? = some (.cells #[.string t211,.int .i64 t212,.int .i64 t213] 46 (0,0))):=⟨by rw [← hq_];exact (Up.Kup BK215)⟩;have n3_ : Aside0 (wr.heap[gb218]? = some (.cells #[.string (rdOf ByteArray.empty t207 0),.int .i64 x219001_2,.int .i64 x219002_2] 26 (0,0))):=⟨by rw [← hq_];exact (Up.Kup BK218)⟩;have n4_ : Aside0 (Below w.heap.size w wr):=⟨by rw [← hq_];exact (Up.Bx HB)⟩;clear HO_37 BK206 BK215 BK218 HB hq_;have HO_37:=n0_;have BK206:=n1_;have BK215:=n2_;have BK218:=n3_;have HB:=n4_;clear n0_ n1_ n2_ n3_ n4_));have hnb35:=NB218_206.out;have hnc35:=NB206_218.out;have hnb36:=NB218_215.out;have hnc36:=NB215_218.out;have hcz37_0:=Up.c0 BK218;have hcz37_1:=Up.c1 BK218;have hcz37_2:=Up.c2 BK218;have hfz37_0:=blk_frozen BK218.out 0;have hfz37_1:=blk_frozen BK218.out 1;have hfz37_2:=blk_frozen BK218.out 2))
              go_roundg k2
              case measure => have:=HJ4.out;have:=HK2.out;omega
              case rel => exact ⟨(wrap64 (x39_2 + 1)),(x207000_2),(x207001_2),(x207002_2),(t226),(x219002_2),(by first | rfl | (simp;done) | (simp [*];done)),H',⟨by have:=HJ4.out;have:=HK2.out;omega⟩,⟨by (with_reducible repeat (first | apply Kd.V_alloc | apply Kd.V_drewN | apply Kd.V_drew));exact Kd.V_mono (Kd.V_far (p:=⟨gb218,1,none⟩) (Kd.V_mono HO_37.out (fun k_ hk => (⟨hk,hk.2.2⟩ : _ ∧ k_ ≠ gb218))) (fun _ hk => hk.2) (.int .i64 t226)) (fun _ hk => ⟨hk.1.1,⟨hk.1.2.1,hk.1.2.2⟩⟩)⟩,⟨by (with_reducible repeat (first | refine blk_drewN ?_ _ | refine blk_drew ?_ | refine blk_alloc ?_ _));refine blk_far ?_ NB206_218.out _;(with_reducible repeat (first | refine blk_drewN ?_ _ | refine blk_drew ?_ | refine blk_alloc ?_ _));exact BK206.out⟩,⟨by (with_reducible repeat (first | refine blk_drewN ?_ _ | refine blk_drew ?_ | refine blk_alloc ?_ _));refine blk_far ?_ NB215_218.out _;(with_reducible repeat (first | refine blk_drewN ?_ _ | refine blk_drew ?_ | refine blk_alloc ?_ _));exact BK215.out⟩,⟨by (with_reducible repeat (first | refine blk_drewN ?_ _ | refine blk_drew ?_ | refine blk_alloc ?_ _));refine blk_put (cs:=#[.string (rdOf ByteArray.empty t207 0),.int .i64 x219001_2,.int .i64 x219002_2]) ?_ 1 _ rfl;(with_reducible repeat (first | refine blk_drewN ?_ _ | refine blk_drew ?_ | refine blk_alloc ?_ _));exact BK218.out⟩,⟨Up.Bx HB⟩⟩
             ·rw [if_neg c34] at H
              have c34b0 : (x39_2 == 0) = false:=beq_eq_false_iff_ne.mpr c34
              have c34b1 : (x39_2 != 0) = true:=bne_iff_ne.mpr c34
              have H':=Aside0.mk H
              clear H
              have p225 : 0 ≤ (x39_2 : Int):=Up.od
              have q225 : x39_2 < (y219.length : Int):=Up.od
              obtain ⟨ad225,e225,hx225_0⟩:=Kd.at_string (Kd.V_reads' HO_37.out).2.2 x39_2 p225 q225
              cases e225
              replace p225:=eq_true p225
              replace q225:=eq_true q225
              go_wp2_with (first | ((with_reducible refine gate_callee (f:=49) rfl ?_);refine Up.gl (some 46) Tryd.func49 #[.string (rdOf ByteArray.empty y219 x39_2)] ?_;(with_reducible refine (impl_decimal.calls k2 (rdOf ByteArray.empty y219 x39_2) t226 true _ A32.out).mono ?_);rintro e w' ⟨rfl,⟨nd,rfl⟩⟩;refine ⟨_,rfl,?_⟩;(try (rw [drewN_self wr];generalize hq_ : World.drewN wr _ = wr;have n0_ : Aside0 (Kd.V Kd.string 9 wr w.heap.size (fun k_ => k_ ≠ gb206 ∧ k_ ≠ gb215 ∧ k_ ≠ gb218) (.slice (some ad225) y219.length c28) y219):=⟨by rw [← hq_];exact (Up.Vup HO_37)⟩;have n1_ : Aside0 (wr.heap[gb206]? = some (.cells #[.string x207000_2,.int .i64 x207001_2,.int .i64 x207002_2] 26 (0,0))):=⟨by rw [← hq_];exact (Up.Kup BK206)⟩;have n2_ : Aside0 (wr.heap[gb215]? = some (.cells #[.string t211,.int .i64 t212,.int .i64 t213] 46 (0,0))):=⟨by rw [← hq_];exact (Up.Kup BK215)⟩;have n3_ : Aside0 (wr.heap[gb218]? = some (.cells #[.string (rdOf ByteArray.empty t207 0),.int .i64 x219001_2,.int .i64 x219002_2] 26 (0,0))):=⟨by rw [← hq_];exact (Up.Kup BK218)⟩;have n4_ : Aside0 (Below w.heap.size w wr):=⟨by rw [← hq_];exact (Up.Bx HB)⟩;clear HO_37 BK206 BK215 BK218 HB hq_;have HO_37:=n0_;have BK206:=n1_;have BK215:=n2_;have BK218:=n3_;have HB:=n4_;clear n0_ n1_ n2_ n3_ n4_));have hnb38:=NB218_206.out;have hnc38:=NB206_218.out;have hnb39:=NB218_215.out;have hnc39:=NB215_218.out;have hcz40_0:=Up.c0 BK218;have hcz40_1:=Up.c1 BK218;have hcz40_2:=Up.c2 BK218;have hfz40_0:=blk_frozen BK218.out 0;have hfz40_1:=blk_frozen BK218.out 1;have hfz40_2:=blk_frozen BK218.out 2))
              go_roundg k2
              case measure => have:=HJ4.out;have:=HK2.out;omega
              case rel => exact ⟨(wrap64 (x39_2 + 1)),(x207000_2),(x207001_2),(x207002_2),(x219001_2),(t226),(by first | rfl | (simp;done) | (simp [*];done)),H',⟨by have:=HJ4.out;have:=HK2.out;omega⟩,⟨by (with_reducible repeat (first | apply Kd.V_alloc | apply Kd.V_drewN | apply Kd.V_drew));exact Kd.V_mono (Kd.V_far (p:=⟨gb218,2,none⟩) (Kd.V_mono HO_37.out (fun k_ hk => (⟨hk,hk.2.2⟩ : _ ∧ k_ ≠ gb218))) (fun _ hk => hk.2) (.int .i64 t226)) (fun _ hk => ⟨hk.1.1,⟨hk.1.2.1,hk.1.2.2⟩⟩)⟩,⟨by (with_reducible repeat (first | refine blk_drewN ?_ _ | refine blk_drew ?_ | refine blk_alloc ?_ _));refine blk_far ?_ NB206_218.out _;(with_reducible repeat (first | refine blk_drewN ?_ _ | refine blk_drew ?_ | refine blk_alloc ?_ _));exact BK206.out⟩,⟨by (with_reducible repeat (first | refine blk_drewN ?_ _ | refine blk_drew ?_ | refine blk_alloc ?_ _));refine blk_far ?_ NB215_218.out _;(with_reducible repeat (first | refine blk_drewN ?_ _ | refine blk_drew ?_ | refine blk_alloc ?_ _));exact BK215.out⟩,⟨by (with_reducible repeat (first | refine blk_drewN ?_ _ | refine blk_drew ?_ | refine blk_alloc ?_ _));refine blk_put (cs:=#[.string (rdOf ByteArray.empty t207 0),.int .i64 x219001_2,.int .i64 x219002_2]) ?_ 2 _ rfl;(with_reducible repeat (first | refine blk_drewN ?_ _ | refine blk_drew ?_ | refine blk_alloc ?_ _));exact BK218.out⟩,⟨Up.Bx HB⟩⟩
            ·replace c33:=Bool.eq_false_iff.mpr c33
             subst c33
             have H1 : (some ((⟨#[]⟩ : ByteArray),0,0,false)) = some (r1,r2,r3,r4):=by rw [if_neg (show ¬ (false = true) by decide)] at H;exact H
             clear H
             have H:=H1
             clear H1
             simp only [Option.some.injEq,Prod.mk.injEq] at H
             obtain ⟨rfl,rfl,rfl,rfl⟩:=H
             have p225 : 0 ≤ (x39_2 : Int):=Up.od
             have q225 : x39_2 < (y219.length : Int):=Up.od
             obtain ⟨ad225,e225,hx225_0⟩:=Kd.at_string (Kd.V_reads' HO_37.out).2.2 x39_2 p225 q225
             cases e225
             replace p225:=eq_true p225
             replace q225:=eq_true q225
             go_wp2_with (first | ((with_reducible refine gate_callee (f:=49) rfl ?_);refine Up.gl (some 46) Tryd.func49 #[.string (rdOf ByteArray.empty y219 x39_2)] ?_;(with_reducible refine (impl_decimal.calls k2 (rdOf ByteArray.empty y219 x39_2) t226 false _ A32.out).mono ?_);rintro e w' ⟨rfl,⟨nd,rfl⟩⟩;refine ⟨_,rfl,?_⟩;(try (rw [drewN_self wr];generalize hq_ : World.drewN wr _ = wr;have n0_ : Aside0 (Kd.V Kd.string 9 wr w.heap.size (fun k_ => k_ ≠ gb206 ∧ k_ ≠ gb215 ∧ k_ ≠ gb218) (.slice (some ad225) y219.length c28) y219):=⟨by rw [← hq_];exact (Up.Vup HO_37)⟩;have n1_ : Aside0 (wr.heap[gb206]? = some (.cells #[.string x207000_2,.int .i64 x207001_2,.int .i64 x207002_2] 26 (0,0))):=⟨by rw [← hq_];exact (Up.Kup BK206)⟩;have n2_ : Aside0 (wr.heap[gb215]? = some (.cells #[.string t211,.int .i64 t212,.int .i64 t213] 46 (0,0))):=⟨by rw [← hq_];exact (Up.Kup BK215)⟩;have n3_ : Aside0 (wr.heap[gb218]? = some (.cells #[.string (rdOf ByteArray.empty t207 0),.int .i64 x219001_2,.int .i64 x219002_2] 26 (0,0))):=⟨by rw [← hq_];exact (Up.Kup BK218)⟩;have n4_ : Aside0 (Below w.heap.size w wr):=⟨by rw [← hq_];exact (Up.Bx HB)⟩;clear HO_37 BK206 BK215 BK218 HB hq_;have HO_37:=n0_;have BK206:=n1_;have BK215:=n2_;have BK218:=n3_;have HB:=n4_;clear n0_ n1_ n2_ n3_ n4_));have hnb41:=NB206_215.out;have hnc41:=NB215_206.out;have hnb42:=NB206_218.out;have hnc42:=NB218_206.out;have hcz43_0:=Up.c0 BK206;have hcz43_1:=Up.c1 BK206;have hcz43_2:=Up.c2 BK206;have hfz43_0:=blk_frozen BK206.out 0;have hfz43_1:=blk_frozen BK206.out 1;have hfz43_2:=blk_frozen BK206.out 2))
             refine bodyPost_ret (results_ct rfl _ _ gb206 26 #[.string (⟨#[]⟩ : ByteArray),.int .i64 0,.int .i64 0] (0,0) _ rfl (Up.Kx BK206) Tryd.underlying26 rfl (by kernel_rfl)) rfl ?_
             exact Up.e1 (Up.Bx HB)
           ·rw [if_neg c31] at H
            exact absurd H (by simp)
          ·rw [if_neg c30] at H
           exact absurd H (by simp)
         ·rw [if_neg c29] at H
          have c29b0 : decide (x39_2 < (y219.length : Int)) = false:=decide_eq_false c29
          clear c29
          replace H:=Option.bind_eq_some_iff.mp H
          obtain ⟨t224,A440,H⟩:=H
          replace H : (if t224 = true then (some ((rdOf ByteArray.empty t207 0),x219001_2,x219002_2,true)) else (some ((⟨#[]⟩ : ByteArray),0,0,false))) = some (r1,r2,r3,r4):=H
          have A44:=Aside0.mk A440
          clear A440
          by_cases c45 : t224 = true
          ·subst c45
           have H1 : (some ((rdOf ByteArray.empty t207 0),x219001_2,x219002_2,true)) = some (r1,r2,r3,r4):=by rw [if_pos rfl] at H;exact H
           clear H
           have H:=H1
           clear H1
           simp only [Option.some.injEq,Prod.mk.injEq] at H
           obtain ⟨rfl,rfl,rfl,rfl⟩:=H
           have hnb46:=NB218_206.out
           have hnc46:=NB206_218.out
           have hnb47:=NB218_215.out
           have hnc47:=NB215_218.out
           have hcz48_0:=Up.c0 BK218
           have hcz48_1:=Up.c1 BK218
           have hcz48_2:=Up.c2 BK218
           have hfz48_0:=blk_frozen BK218.out 0
           have hfz48_1:=blk_frozen BK218.out 1
           have hfz48_2:=blk_frozen BK218.out 2
           go_wp2_with (first | ((with_reducible refine gate_callee (f:=14) rfl ?_);refine Up.gl (some 60) Tryd.func14 #[.agg #[.string (rdOf ByteArray.empty t207 0),.int .i64 x219001_2,.int .i64 x219002_2]] ?_;(with_reducible refine (impl_InsOk.calls (hT_:=?tab1) k2 (rdOf ByteArray.empty t207 0) x219001_2 x219002_2 true _ A44.out).mono ?_);(case tab1 => exact hT_.below (Up.Bx HB));rintro e w49 ⟨rfl,hb⟩;refine ⟨_,rfl,?_⟩;have n0_:=Up.VB HO_37 hb;have n1_:=Up.KB BK206 hb;have n2_:=Up.KB BK215 hb;have n3_:=Up.KB BK218 hb;have n4_:=Aside0.mk (below_step (Up.Bx HB) hb);clear HO_37 BK206 BK215 BK218 HB;have HO_37:=n0_;have BK206:=n1_;have BK215:=n2_;have BK218:=n3_;have HB:=n4_;clear n0_ n1_ n2_ n3_ n4_;(try clear hb);(try clear hb2);(try clear hk);(try clear hi);have hcz50_0:=Up.c0 BK218;have hcz50_1:=Up.c1 BK218;have hcz50_2:=Up.c2 BK218;have hfz50_0:=blk_frozen BK218.out 0;have hfz50_1:=blk_frozen BK218.out 1;have hfz50_2:=blk_frozen BK218.out 2;have hnb51:=NB206_215.out;have hnc51:=NB215_206.out;have hcz52_0:=Up.c0 BK206;have hcz52_1:=Up.c1 BK206;have hcz52_2:=Up.c2 BK206;have hfz52_0:=blk_frozen BK206.out 0;have hfz52_1:=blk_frozen BK206.out 1;have hfz52_2:=blk_frozen BK206.out 2))
           refine bodyPost_ret (results_ct rfl _ _ gb206 26 #[.string (rdOf ByteArray.empty t207 0),.int .i64 x219001_2,.int .i64 x219002_2] (0,0) _ rfl (Up.Kx BK206) Tryd.underlying26 rfl (by kernel_rfl)) rfl ?_
           exact Up.e1 (Up.Bx HB)
          ·replace c45:=Bool.eq_false_iff.mpr c45
           subst c45
           have H1 : (some ((⟨#[]⟩ : ByteArray),0,0,false)) = some (r1,r2,r3,r4):=by rw [if_neg (show ¬ (false = true) by decide)] at H;exact H
           clear H
           have H:=H1
           clear H1
           simp only [Option.some.injEq,Prod.mk.injEq] at H
           obtain ⟨rfl,rfl,rfl,rfl⟩:=H
           have hnb53:=NB218_206.out
           have hnc53:=NB206_218.out
           have hnb54:=NB218_215.out
           have hnc54:=NB215_218.out
           have hcz55_0:=Up.c0 BK218
           have hcz55_1:=Up.c1 BK218
           have hcz55_2:=Up.c2 BK218
           have hfz55_0:=blk_frozen BK218.out 0
           have hfz55_1:=blk_frozen BK218.out 1
           have hfz55_2:=blk_frozen BK218.out 2
           go_wp2_with (first | ((with_reducible refine gate_callee (f:=14) rfl ?_);refine Up.gl (some 60) Tryd.func14 #[.agg #[.string (rdOf ByteArray.empty t207 0),.int .i64 x219001_2,.int .i64 x219002_2]] ?_;(with_reducible refine (impl_InsOk.calls (hT_:=?tab1) k2 (rdOf ByteArray.empty t207 0) x219001_2 x219002_2 false _ A44.out).mono ?_);(case tab1 => exact hT_.below (Up.Bx HB));rintro e w56 ⟨rfl,hb⟩;refine ⟨_,rfl,?_⟩;have n0_:=Up.VB HO_37 hb;have n1_:=Up.KB BK206 hb;have n2_:=Up.KB BK215 hb;have n3_:=Up.KB BK218 hb;have n4_:=Aside0.mk (below_step (Up.Bx HB) hb);clear HO_37 BK206 BK215 BK218 HB;have HO_37:=n0_;have BK206:=n1_;have BK215:=n2_;have BK218:=n3_;have HB:=n4_;clear n0_ n1_ n2_ n3_ n4_;(try clear hb);(try clear hb2);(try clear hk);(try clear hi);have hnb57:=NB206_215.out;have hnc57:=NB215_206.out;have hcz58_0:=Up.c0 BK206;have hcz58_1:=Up.c1 BK206;have hcz58_2:=Up.c2 BK206;have hfz58_0:=blk_frozen BK206.out 0;have hfz58_1:=blk_frozen BK206.out 1;have hfz58_2:=blk_frozen BK206.out 2))
           refine bodyPost_ret (results_ct rfl _ _ gb206 26 #[.string (⟨#[]⟩ : ByteArray),.int .i64 0,.int .i64 0] (0,0) _ rfl (Up.Kx BK206) Tryd.underlying26 rfl (by kernel_rfl)) rfl ?_
           exact Up.e1 (Up.Bx HB)
      ·rw [if_neg c22] at H
       exact absurd H (by simp)
     ·rw [if_neg c21] at H
      exact absurd H (by simp)
 ·rw [if_neg c3] at H
  exact absurd H (by simp)

/-- A state of type 70 at block g of W; what its slices lead to came in by w0. -/
def IsS70 (w0 W : World) (g : Nat) (f0 : List Int) (f1 : Int) : Prop:=∃ A0 c0,W.heap[g]? = some (.cells #[.slice A0 f0.length c0,.int .i64 f1] 70 (0,0)) ∧ w0.heap.size ≤ g ∧ Kd.C (Kd.int .u8) w0 A0 f0.length f0
theorem IsS70.grown {w0 W : World} {g : Nat} {f0 : List Int} {f1 : Int} {W1 : World} {row : Option Nat} (h : IsS70 w0 W g f0 f1) (hw : W.grownBy W1 row) (hne : some g ≠ row) : IsS70 w0 W1 g f0 f1:=by
 obtain ⟨A0,c0,hb,hg,hr0⟩:=h
 exact ⟨A0,c0,blk_grown hb hw hne,hg,hr0⟩
theorem IsS70.own_neN {w0 W : World} {g : Nat} {f0 : List Int} {f1 : Int} {α : Type} {d : Kd α} {e : Nat} {base : Nat} {ok : Nat → Prop} {v : Value} {xs : List α} (h : IsS70 w0 W g f0 f1) (ho : Kd.N d e W base ok v xs) (ht : e ≠ 70) : some g ≠ v.ownBlock:=by
 obtain ⟨A0,c0,hb,hg,hr0⟩:=h
 exact Kd.N_ne ho hb ht
theorem IsS70.fresh {w0 W : World} {g : Nat} {f0 : List Int} {f1 : Int} (h : IsS70 w0 W g f0 f1) : ∀ k,W.heap.size ≤ k → k ≠ g:=by
 obtain ⟨A0,c0,hb,hg,hr0⟩:=h
 exact Kd.freshB hb
theorem IsS70.kept {w0 W : World} {g : Nat} {f0 : List Int} {f1 : Int} {W1 : World} {S : Nat → Prop} (h : IsS70 w0 W g f0 f1) (hk : Kept W W1 S) (hne : ¬ S g) : IsS70 w0 W1 g f0 f1:=by
 obtain ⟨A0,c0,hb,hg,hr0⟩:=h
 exact ⟨A0,c0,blk_kept hb hk hne,hg,hr0⟩
theorem IsS70.below {w0 W : World} {g : Nat} {f0 : List Int} {f1 : Int} {W1 : World} (h : IsS70 w0 W g f0 f1) (hw : Below W.heap.size W W1) : IsS70 w0 W1 g f0 f1:=h.grown (grown_of_below hw none) (by simp)
theorem IsS70.alloc {w0 W : World} {g : Nat} {f0 : List Int} {f1 : Int} (h : IsS70 w0 W g f0 f1) (o : Obj) : IsS70 w0 (W.alloc o) g f0 f1:=h.below (below_alloc (Below.refl _ _) o)
theorem IsS70.drewN {w0 W : World} {g : Nat} {f0 : List Int} {f1 : Int} (h : IsS70 w0 W g f0 f1) (m : Nat) : IsS70 w0 (W.drewN m) g f0 f1:=h
theorem IsS70.drew {w0 W : World} {g : Nat} {f0 : List Int} {f1 : Int} (h : IsS70 w0 W g f0 f1) : IsS70 w0 W.drew g f0 f1:=h
theorem IsS70.at_ {w0 W : World} {g : Nat} {f0 : List Int} {f1 : Int} {w' : World} {m : Nat} (hq : W.drewN m = w') (h : IsS70 w0 W g f0 f1) : IsS70 w0 w' g f0 f1:=by subst hq;exact IsS70.drewN h m
theorem IsS70.apart {w0 W : World} {g : Nat} {f0 : List Int} {f1 : Int} {α : Type} {d : Kd α} {e : Nat} {base : Nat} {ok : Nat → Prop} {v : Value} {xs : List α} (h : IsS70 w0 W g f0 f1) (ho : d.R e W base ok v xs) (ht : ∀ q,q ∈ e :: d.E → q ≠ 70) : d.R e W base (fun k => ok k ∧ k ≠ g) v xs:=by
 obtain ⟨A0,c0,hb,hg,hr0⟩:=h
 exact Kd.R_types ho hb ht
theorem IsS70.own_ne {w0 W : World} {g : Nat} {f0 : List Int} {f1 : Int} {α : Type} {d : Kd α} {e : Nat} {base : Nat} {ok : Nat → Prop} {v : Value} {xs : List α} (h : IsS70 w0 W g f0 f1) (ho : d.R e W base ok v xs) (ht : e ≠ 70) : some g ≠ v.ownBlock:=by
 obtain ⟨A0,c0,hb,hg,hr0⟩:=h
 exact Kd.R_ne ho hb ht
theorem IsS70.apartQ {w0 W : World} {g : Nat} {f0 : List Int} {f1 : Int} {α : Type} {d : Kd α} {e : Nat} {base : Nat} {ok : Nat → Prop} {v : Value} {xs : List α} (h : IsS70 w0 W g f0 f1) (ho : d.Q e W base ok v xs) (ht : ∀ q,q ∈ e :: d.E → q ≠ 70) : d.Q e W base (fun k => ok k ∧ k ≠ g) v xs:=by
 obtain ⟨A0,c0,hb,hg,hr0⟩:=h
 exact Kd.Q_types ho hb ht
theorem IsS70.own_neQ {w0 W : World} {g : Nat} {f0 : List Int} {f1 : Int} {α : Type} {d : Kd α} {e : Nat} {base : Nat} {ok : Nat → Prop} {v : Value} {xs : List α} (h : IsS70 w0 W g f0 f1) (ho : d.Q e W base ok v xs) (ht : e ≠ 70) : some g ≠ v.ownBlock:=by
 obtain ⟨A0,c0,hb,hg,hr0⟩:=h
 exact Kd.Q_ne ho hb ht
theorem IsS70.apartS {w0 W : World} {g : Nat} {f0 : List Int} {f1 : Int} {α : Type} {d : Kd α} {e : Nat} {base : Nat} {ok : Nat → Prop} {v : Value} {xs : List α} (h : IsS70 w0 W g f0 f1) (ho : d.S e W base ok v xs) (ht : ∀ q,q ∈ e :: d.E → q ≠ 70) : d.S e W base (fun k => ok k ∧ k ≠ g) v xs:=by
 obtain ⟨A0,c0,hb,hg,hr0⟩:=h
 exact Kd.S_types ho hb ht
theorem IsS70.own_neS {w0 W : World} {g : Nat} {f0 : List Int} {f1 : Int} {α : Type} {d : Kd α} {e : Nat} {base : Nat} {ok : Nat → Prop} {v : Value} {xs : List α} (h : IsS70 w0 W g f0 f1) (ho : d.S e W base ok v xs) (ht : e ≠ 70) : some g ≠ v.ownBlock:=by
 obtain ⟨A0,c0,hb,hg,hr0⟩:=h
 exact Kd.S_ne ho hb ht
theorem IsS70.lt {w0 W : World} {g : Nat} {f0 : List Int} {f1 : Int} (h : IsS70 w0 W g f0 f1) : g < W.heap.size:=by
 obtain ⟨A0,c0,hb,hg,hr0⟩:=h
 exact blk_lt hb
theorem IsS70.ge {w0 W : World} {g : Nat} {f0 : List Int} {f1 : Int} (h : IsS70 w0 W g f0 f1) : w0.heap.size ≤ g:=by
 obtain ⟨A0,c0,hb,hg,hr0⟩:=h
 exact hg
theorem IsS70.ne_blk {w0 W : World} {g : Nat} {f0 : List Int} {f1 : Int} {a : Nat} {cs : Array Value} {t : TypeId} {fr : Nat × Nat} (h : IsS70 w0 W g f0 f1) (hb2 : W.heap[a]? = some (.cells cs t fr)) (ht : t ≠ 70) : g ≠ a:=by
 obtain ⟨A0,c0,hb,hg,hr0⟩:=h
 rintro rfl
 rw [hb] at hb2
 injection hb2 with hb2
 injection hb2 with _ ht2
 exact ht ht2.symm
theorem IsS70.far {w0 W : World} {g : Nat} {f0 : List Int} {f1 : Int} {p : Addr} (h : IsS70 w0 W g f0 f1) (hne : g ≠ p.block) (u : Value) : IsS70 w0 (W.setCell p u) g f0 f1:=by
 obtain ⟨A0,c0,hb,hg,hr0⟩:=h
 exact ⟨A0,c0,blk_far hb hne u,hg,hr0⟩
theorem cellS70_0 {W : World} {g : Nat} {A0 : Option Addr} {c0 : Nat} {f0 : List Int} {f1 : Int} (h : W.heap[g]? = some (.cells #[.slice A0 f0.length c0,.int .i64 f1] 70 (0,0))) : W.cell? ⟨g,0,none⟩ = some (.slice A0 f0.length c0):=(blk_cell h 0).trans rfl
theorem cellS70_1 {W : World} {g : Nat} {A0 : Option Addr} {c0 : Nat} {f0 : List Int} {f1 : Int} (h : W.heap[g]? = some (.cells #[.slice A0 f0.length c0,.int .i64 f1] 70 (0,0))) : W.cell? ⟨g,1,none⟩ = some (.int .i64 f1):=(blk_cell h 1).trans rfl
theorem IsS70.set_1 {w0 W : World} {g : Nat} {f0 : List Int} {f1 : Int} (h : IsS70 w0 W g f0 f1) (x : Int) : IsS70 w0 (W.setCell ⟨g,1,none⟩ (.int .i64 x)) g f0 x:=by
 obtain ⟨A0,c0,hb,hg,hr0⟩:=h
 exact ⟨A0,c0,by simpa using blk_set hb 1 (.int .i64 x),hg,hr0⟩
theorem IsS70.new (w0 W : World) (A0 : Option Addr) (c0 : Nat) (f0 : List Int) (f1 : Int) (hB : Below w0.heap.size w0 W) (hr0 : Kd.C (Kd.int .u8) w0 A0 f0.length f0) : IsS70 w0 (W.alloc (.cells #[.slice A0 f0.length c0,.int .i64 f1] 70)) W.heap.size f0 f1:=⟨A0,c0,by simpa using heap_alloc_new W _,hB.size,hr0⟩

theorem Ip0 {P Q : Prop} (h : Aside0 P) (hs : P → Q := by intro h; repeat (first | (with_reducible first | exact h | apply IsS70.alloc | apply IsS70.drewN | apply IsS70.drew | apply IsS70.set_1) | exact h)) : Q := hs h.out
theorem Ip1 {P Q R : Prop} (h : Aside0 P) (h2 : Aside0 R) (hs : P → R → Q := by intro h h2; repeat (first | (with_reducible first | exact h | apply IsS70.alloc | apply IsS70.drewN | apply IsS70.drew | apply IsS70.set_1 | refine IsS70.far ?_ h2 _) | exact h)) : Q := hs h.out h2.out
/-! ### spec_l6Open: function 40 -/
def spec_l6Open.f (l0 : List Int) : Option (List Int × Int):=if (l0.length : Int) > 2000 then (if 2000 ≤ (l0.length : Int) then (some (l0.take 2000,0)) else (none)) else (some (l0,0))
set_option maxHeartbeats 8000000 in
set_option maxRecDepth 100000 in
theorem spec_l6Open.calls (A0 : Option Addr) (c0 : Nat) (l0 : List Int) (r1 : List Int) (r2 : Int) (w0 w : World) (hB : Below w0.heap.size w0 w) (hr0 : Kd.C (Kd.int .u8) w0 A0 l0.length l0) (hc0 : l0.length ≤ c0) (h : spec_l6Open.f l0 = some (r1,r2)) :
  Calls Tryd.prog 40 #[.slice A0 l0.length c0] w fun e w' => ∃ g_ : Nat,e = .returned (.pointer (some ⟨g_,0,none⟩)) ∧ IsS70 w0 w' g_ r1 r2 ∧ Below w0.heap.size w0 w' ∧ Below w.heap.size w w':=by
 have hu70:=Tryd.underlying70
 have HR0:=Aside0.mk hr0
 have HC0:=Aside0.mk hc0
 clear hr0 hc0
 have HBW:=Aside0.mk (Below.refl w.heap.size w)
 have HW0:=Aside0.mk hB.size
 have HB:=Aside0.mk hB
 clear hB
 have H : (if (l0.length : Int) > 2000 then (if 2000 ≤ (l0.length : Int) then (some (l0.take 2000,0)) else (none)) else (some (l0,0))) = some (r1,r2):=h
 clear h
 by_cases c2 : (l0.length : Int) > 2000
 ·rw [if_pos c2] at H
  have c2b0 : decide (2000 < (l0.length : Int)) = true:=decide_eq_true c2
  have c2b1 : decide (2000 < l0.length) = true:=decide_eq_true (by omega)
  clear c2
  by_cases c3 : 2000 ≤ (l0.length : Int)
  ·rw [if_pos c3] at H
   have c3b0:=eq_true c3
   have c3b1 : decide (2000 ≤ (l0.length : Int)) = true:=decide_eq_true c3
   clear c3
   simp only [Option.some.injEq,Prod.mk.injEq] at H
   obtain ⟨rfl,rfl⟩:=H
   obtain ⟨i04,hi04,_,hsz4,_⟩:=info_parts info5
   obtain ⟨hcut4,hA4,hC4⟩:=print_take_of (P:=Tryd.prog) (Value.int .u8) 0 29 5 .i64 Tryd.underlying29 hi04 hsz4 A0 c0 l0 2000 (by omega) (Up.od) HC0.out
   have HR228:=Aside0.mk (Kd.C_of_reads (h1:=fun _ => rfl) (hA4 _ (Kd.reads_of_C HR0.out)))
   have HC228:=Aside0.mk hC4
   clear hA4 hC4 hi04 hsz4
   go_enter Tryd.func40,Tryd.ntmps40
   go_wp2_with (first | ((with_reducible refine gate_dst (N:=10) rfl ?_);refine Up.bx 10 70 #[.slice A0 (l0.take 2000).length c0,.int .i64 0] ?_;intro gb229 hg w5 hbox hb;have n0_:=Aside0.mk (below_step HBW.out hb);have n1_:=Up.BB HB hb;have n2_:=Aside0.mk (hbox);have n3_:=Up.gw hg HBW;have n4_:=Aside0.mk ((Nat.le_trans HW0.out (by rw [hg];exact (below_size (Up.Bx HBW)) : w.heap.size ≤ gb229) : w0.heap.size ≤ gb229));clear HBW HB;have HBW:=n0_;have HB:=n1_;have BK229:=n2_;have GW229:=n3_;have GE229:=n4_;clear n0_ n1_ n2_ n3_ n4_ hb hbox hg))
   go_ret
   exact ⟨_,rfl,(show IsS70 w0 _ gb229 (l0.take 2000) 0 from ⟨_,_,by (with_reducible repeat (first | refine blk_drewN ?_ _ | refine blk_drew ?_ | refine blk_alloc ?_ _));exact BK229.out,GE229.out,HR228.out⟩),Up.Bx HB,by repeat (first | (with_reducible first | exact HBW.out | apply below_alloc | apply pw_below_drewN | apply below_drew1 | refine below_set ?_ GW229.out) | exact HBW.out)⟩
  ·rw [if_neg c3] at H
   exact absurd H (by simp)
 ·rw [if_neg c2] at H
  have c2b0 : decide (2000 < (l0.length : Int)) = false:=decide_eq_false c2
  have c2b1 : decide (2000 < l0.length) = false:=decide_eq_false (by omega)
  clear c2
  simp only [Option.some.injEq,Prod.mk.injEq] at H
  obtain ⟨rfl,rfl⟩:=H
  go_enter Tryd.func40,Tryd.ntmps40
  go_wp2_with (first | ((with_reducible refine gate_dst (N:=10) rfl ?_);refine Up.bx 10 70 #[.slice A0 l0.length c0,.int .i64 0] ?_;intro gb230 hg w6 hbox hb;have n0_:=Aside0.mk (below_step HBW.out hb);have n1_:=Up.BB HB hb;have n2_:=Aside0.mk (hbox);have n3_:=Up.gw hg HBW;have n4_:=Aside0.mk ((Nat.le_trans HW0.out (by rw [hg];exact (below_size (Up.Bx HBW)) : w.heap.size ≤ gb230) : w0.heap.size ≤ gb230));clear HBW HB;have HBW:=n0_;have HB:=n1_;have BK230:=n2_;have GW230:=n3_;have GE230:=n4_;clear n0_ n1_ n2_ n3_ n4_ hb hbox hg))
  go_ret
  exact ⟨_,rfl,(show IsS70 w0 _ gb230 l0 0 from ⟨_,_,by (with_reducible repeat (first | refine blk_drewN ?_ _ | refine blk_drew ?_ | refine blk_alloc ?_ _));exact BK230.out,GE230.out,HR0.out⟩),Up.Bx HB,by repeat (first | (with_reducible first | exact HBW.out | apply below_alloc | apply pw_below_drewN | apply below_drew1 | refine below_set ?_ GW230.out) | exact HBW.out)⟩

end Go.Proofs.YtfkhjnmgaadomaaDoor.OFnInsText
