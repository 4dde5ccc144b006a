-- Laid by a program of this session (wip/myprint.py): the kit's print of the functions, contracts of our own among them.
import Derived.Test.YtpfpfnjmhdgglaaDoorOFnExactShapeTextx0
import Derived.Test.YtpfpfnjmhdgglaaDoorOFnExactShapeTextx1
namespace Go.Proofs.YtpfpfnjmhdgglaaDoor.OFnExactShapeText
open Go.RowKit Go.Proofs.YtpfpfnjmhdgglaaDoorW.PrintWords Go.Proofs.YtpfpfnjmhdgglaaDoorW.PrintLast Go.Proofs.YtpfpfnjmhdgglaaDoorW.PrintMore
attribute [local go_sem] max2_int min2_int max_two min_two max_three min_three max_four min_four   -- for this text's walks alone
set_option linter.unusedVariables false
set_option linter.unusedSimpArgs false

/-! ### spec_l5Text: function 10 -/
theorem isE_ (l : List UInt8) : l.isEmpty = (l == ([] : List UInt8)):=by cases l <;> rfl
mutual
def spec_l5Text.l0 : Nat → List (S39) → ByteArray → Int → Option (ByteArray)
 | 0,_,_,_ => none
 | k + 1,x0,x3,x4 => if x4 < (x0.length : Int) then (if 0 ≤ x4 then (if ((rd_T39 x0 x4).f0).toList = ([] : List UInt8) then (spec_l5Text.j1 k x0 x3 x4 (⟨#[45]⟩ : ByteArray)) else (spec_l5Text.j1 k x0 x3 x4 ((rd_T39 x0 x4).f0))) else (none)) else (some x3)
def spec_l5Text.j1 : Nat → List (S39) → ByteArray → Int → ByteArray → Option (ByteArray)
 | 0,_,_,_,_ => none
 | k + 1,x0,x3,x4,x5 => spec_l5Text.l1 k x0 x3 x4 x5 0
def spec_l5Text.l1 : Nat → List (S39) → ByteArray → Int → ByteArray → Int → Option (ByteArray)
 | 0,_,_,_,_,_ => none
 | k + 1,x0,x3,x4,x5,x6 => if 0 ≤ x4 then (if x4 < (x0.length : Int) then (if x6 < (((rd_T39 x0 x4).f1).length : Int) then (if x5.size + 1 ≤ 9223372036854775807 then (if 0 ≤ x6 then ((spec_l6Dec.f k (rd ((rd_T39 x0 x4).f1) x6)).bind fun t120 => (if (x5 ++ (⟨#[46]⟩ : ByteArray)).size + t120.size ≤ 9223372036854775807 then (spec_l5Text.l1 k x0 x3 x4 ((x5 ++ (⟨#[46]⟩ : ByteArray)) ++ t120) (wrap64 (x6 + 1))) else (none))) else (none)) else (none)) else (if x3.size + 1 ≤ 9223372036854775807 then (if (x3 ++ (⟨#[32]⟩ : ByteArray)).size + x5.size ≤ 9223372036854775807 then (spec_l5Text.l0 k x0 ((x3 ++ (⟨#[32]⟩ : ByteArray)) ++ x5) (wrap64 (x4 + 1))) else (none)) else (none))) else (none)) else (none)
end
def spec_l5Text.f (k : Nat) (l0 : List (S39)) : Option (ByteArray):=spec_l5Text.l0 k l0 (⟨#[]⟩ : ByteArray) 0
theorem spec_l5Text.mono_l : ∀ k,(∀ y0 y1 y2,LeO (spec_l5Text.l0 k y0 y1 y2) (spec_l5Text.l0 (k + 1) y0 y1 y2)) ∧ (∀ y0 y1 y2 y3,LeO (spec_l5Text.j1 k y0 y1 y2 y3) (spec_l5Text.j1 (k + 1) y0 y1 y2 y3)) ∧ (∀ y0 y1 y2 y3 y4,LeO (spec_l5Text.l1 k y0 y1 y2 y3 y4) (spec_l5Text.l1 (k + 1) y0 y1 y2 y3 y4))
 | 0 => ⟨fun _ _ _ r h => by simp [spec_l5Text.l0] at h,fun _ _ _ _ r h => by simp [spec_l5Text.j1] at h,fun _ _ _ _ _ r h => by simp [spec_l5Text.l1] at h⟩
 | k + 1 => by
  obtain ⟨ih0,ih1,ih2⟩:=spec_l5Text.mono_l k
  refine ⟨?_,?_,?_⟩
  ·intro y0 y1 y2
   unfold spec_l5Text.l0
   repeat' first
   | (with_reducible exact ih0 _ _ _)
   | (with_reducible exact ih1 _ _ _ _)
   | (with_reducible exact ih2 _ _ _ _ _)
   | (with_reducible exact spec_l6Dec.mono _ _)
   | (with_reducible exact LeO.refl _)
   | (with_reducible exact LeO.none _)
   | (with_reducible refine LeO.ite ?_ ?_)
   | (with_reducible refine LeO.bind ?_ (fun _ => ?_))
   | exact ih0 _ _ _
   | exact ih1 _ _ _ _
   | exact ih2 _ _ _ _ _
   | exact spec_l6Dec.mono _ _
   | exact LeO.none _
   | refine LeO.ite ?_ ?_
   | refine LeO.bind ?_ (fun _ => ?_)
  ·intro y0 y1 y2 y3
   unfold spec_l5Text.j1
   repeat' first
   | (with_reducible exact ih0 _ _ _)
   | (with_reducible exact ih1 _ _ _ _)
   | (with_reducible exact ih2 _ _ _ _ _)
   | (with_reducible exact spec_l6Dec.mono _ _)
   | (with_reducible exact LeO.refl _)
   | (with_reducible exact LeO.none _)
   | (with_reducible refine LeO.ite ?_ ?_)
   | (with_reducible refine LeO.bind ?_ (fun _ => ?_))
   | exact ih0 _ _ _
   | exact ih1 _ _ _ _
   | exact ih2 _ _ _ _ _
   | exact spec_l6Dec.mono _ _
   | exact LeO.none _
   | refine LeO.ite ?_ ?_
   | refine LeO.bind ?_ (fun _ => ?_)
  ·intro y0 y1 y2 y3 y4
   unfold spec_l5Text.l1
   repeat' first
   | (with_reducible exact ih0 _ _ _)
   | (with_reducible exact ih1 _ _ _ _)
   | (with_reducible exact ih2 _ _ _ _ _)
   | (with_reducible exact spec_l6Dec.mono _ _)
   | (with_reducible exact LeO.refl _)
   | (with_reducible exact LeO.none _)
   | (with_reducible refine LeO.ite ?_ ?_)
   | (with_reducible refine LeO.bind ?_ (fun _ => ?_))
   | exact ih0 _ _ _
   | exact ih1 _ _ _ _
   | exact ih2 _ _ _ _ _
   | exact spec_l6Dec.mono _ _
   | exact LeO.none _
   | refine LeO.ite ?_ ?_
   | refine LeO.bind ?_ (fun _ => ?_)
theorem spec_l5Text.mono : ∀ a0 k,LeO (spec_l5Text.f k a0) (spec_l5Text.f (k + 1) a0):=by
 intro a0 k
 obtain ⟨ih0,ih1,ih2⟩:=spec_l5Text.mono_l k
 unfold spec_l5Text.f
 repeat' first
   | (with_reducible exact ih0 _ _ _)
   | (with_reducible exact ih1 _ _ _ _)
   | (with_reducible exact ih2 _ _ _ _ _)
   | (with_reducible exact spec_l6Dec.mono _ _)
   | (with_reducible exact LeO.refl _)
   | (with_reducible exact LeO.none _)
   | (with_reducible refine LeO.ite ?_ ?_)
   | (with_reducible refine LeO.bind ?_ (fun _ => ?_))
   | exact ih0 _ _ _
   | exact ih1 _ _ _ _
   | exact ih2 _ _ _ _ _
   | exact spec_l6Dec.mono _ _
   | exact LeO.none _
   | refine LeO.ite ?_ ?_
   | refine LeO.bind ?_ (fun _ => ?_)
set_option maxHeartbeats 8000000 in
set_option maxRecDepth 100000 in
theorem spec_l5Text.calls (k : Nat) (A0 : Option Addr) (c0 : Nat) (l0 : List (S39)) (r : ByteArray) (w : World) (hr0 : Kd.C k39 w A0 l0.length l0) (hc0 : l0.length ≤ c0) (h : spec_l5Text.f k l0 = some r) :
  Calls Tryd.prog 10 #[.slice A0 l0.length c0] w fun e w' => e = .returned (.string r) ∧ Below w.heap.size w w':=by
 have HR0:=Aside0.mk hr0
 have HC0:=Aside0.mk hc0
 clear hr0 hc0
 have HB:=Aside0.mk (Below.refl w.heap.size w)
 have H : (spec_l5Text.l0 k l0 (⟨#[]⟩ : ByteArray) 0) = some r:=h
 clear h
 have H':=Aside0.mk H
 clear H
 go_enter Tryd.func10,Tryd.ntmps10
 go_wp2
 go_loopg [3,4] k (fun kq v3 v4 w' => ∃ (x3_1 : ByteArray) (x4_1 : Int),v3 = .string x3_1 ∧ v4 = .int .i64 x4_1 ∧ Aside0 (spec_l5Text.l0 kq l0 x3_1 x4_1 = some r) ∧ Aside0 (kq ≤ k) ∧ Aside0 (Below w.heap.size w w'))
 case atStart => exact ⟨((⟨#[]⟩ : ByteArray)),(0),(by first | rfl | (simp;done) | (simp [*];done)),(by first | rfl | (simp;done) | (simp [*];done)),H',⟨Nat.le_refl _⟩,⟨Up.Bup HB⟩⟩
 case round =>
  clear H'
  try clear c1
  obtain ⟨x3_1,x4_1,rfl,rfl,HA,HK1,HB⟩:=hrel
  cases gk with
  | zero => exact absurd HA.out (by simp [spec_l5Text.l0])
  | succ k1 =>
   have H:=HA.out
   clear HA
   simp only [spec_l5Text.l0] at H
   by_cases c2 : x4_1 < (l0.length : Int)
   ·rw [if_pos c2] at H
    have c2b0 : decide (x4_1 < (l0.length : Int)) = true:=decide_eq_true c2
    clear c2
    by_cases c3 : 0 ≤ x4_1
    ·rw [if_pos c3] at H
     have c3b0 : decide (0 ≤ x4_1) = true:=decide_eq_true c3
     clear c3
     have HC4:=Aside0.mk H
     clear H
     have p116 : 0 ≤ (x4_1 : Int):=Up.od
     have q116 : x4_1 < (l0.length : Int):=Up.od
     obtain ⟨ad116,A116_1,c116_1,e116,hx116_0,hx116_1,hl116_1,hi116_1⟩:=at_T39 HR0.out x4_1 p116 q116
     cases e116
     replace hx116_0:=Up.hc HB hx116_0
     replace hx116_1:=Up.hc HB hx116_1
     have HR116_1:=Aside0.mk hi116_1
     have HC116_1:=Aside0.mk hl116_1
     clear hi116_1 hl116_1
     replace p116:=eq_true p116
     replace q116:=eq_true q116
     go_upto_if 19 with (fail)
     go_cut [5] (fun v5 wc => ∃ (kq : Nat) (x5_3 : ByteArray),v5 = .string x5_3 ∧ Aside0 (spec_l5Text.j1 kq l0 x3_1 x4_1 x5_3 = some r) ∧ Aside0 (kq ≤ k1) ∧ Aside0 (Below w.heap.size w wc))
     case first =>
      have H:=HC4.out
      clear HC4
      by_cases c5 : ((rd_T39 l0 x4_1).f0).toList = ([] : List UInt8)
      ·rw [if_pos c5] at H
       have c5b0 : (((rd_T39 l0 x4_1).f0).toList == ([] : List UInt8)) = true:=beq_iff_eq.mpr c5
       have c5b9 : (((rd_T39 l0 x4_1).f0)).toList.isEmpty = true:=(isE_ _).trans c5b0
       have c5b1 : (((rd_T39 l0 x4_1).f0).toList != ([] : List UInt8)) = false:=bne_eq_false_iff_eq.mpr c5
       clear c5
       (first | rw [c5b0] | (rw [isE_];rw [c5b0]) | (simp only [i64_w,i32_w];rw [c5b0]) | skip)
       have H':=Aside0.mk H
       clear H
       go_wp2
       go_meet
       case rel => exact ⟨_,((⟨#[45]⟩ : ByteArray)),(by first | rfl | (simp;done) | (simp [*];done)),H',⟨by have:=HK1.out;first | omega | exact Nat.le_refl _⟩,⟨Up.Bup HB⟩⟩
      ·rw [if_neg c5] at H
       have c5b0 : (((rd_T39 l0 x4_1).f0).toList == ([] : List UInt8)) = false:=beq_eq_false_iff_ne.mpr c5
       have c5b9 : (((rd_T39 l0 x4_1).f0)).toList.isEmpty = false:=(isE_ _).trans c5b0
       have c5b1 : (((rd_T39 l0 x4_1).f0).toList != ([] : List UInt8)) = true:=bne_iff_ne.mpr c5
       (first | rw [c5b0] | (rw [isE_];rw [c5b0]) | (simp only [i64_w,i32_w];rw [c5b0]) | skip)
       have H':=Aside0.mk H
       clear H
       go_wp2
       go_meet
       case rel => exact ⟨_,((rd_T39 l0 x4_1).f0),(by first | rfl | (simp;done) | (simp [*];done)),H',⟨by have:=HK1.out;first | omega | exact Nat.le_refl _⟩,⟨Up.Bup HB⟩⟩
     case rest =>
      clear HC4
      try clear c1
      try clear p1
      try clear q1
      try clear hx1
      try clear c2
      try clear c2b0
      try clear p2
      try clear c3
      try clear c3b0
      try clear c5
      try clear c5b0
      try clear c5b1
      try clear hx116_0
      try clear hx116_1
      try clear p116
      try clear q116
      obtain ⟨kq,x5_3,rfl,HA,HJ3,HB⟩:=hcut
      cases kq with
      | zero => exact absurd HA.out (by simp [spec_l5Text.j1])
      | succ kj3 =>
       have H:=HA.out
       clear HA
       simp only [spec_l5Text.j1] at H
       have H':=Aside0.mk H
       clear H
       go_wp2
       go_loopg [5,6] kj3 (fun kq v5 v6 w' => ∃ (x5_3 : ByteArray) (x6_3 : Int),v5 = .string x5_3 ∧ v6 = .int .i64 x6_3 ∧ Aside0 (spec_l5Text.l1 kq l0 x3_1 x4_1 x5_3 x6_3 = some r) ∧ Aside0 (kq ≤ kj3) ∧ Aside0 (Below w.heap.size w w'))
       case atStart => exact ⟨(x5_3),(0),(by first | rfl | (simp;done) | (simp [*];done)),(by first | rfl | (simp;done) | (simp [*];done)),H',⟨Nat.le_refl _⟩,⟨Up.Bup HB⟩⟩
       case round =>
        clear H'
        try clear c1
        try clear p1
        try clear q1
        try clear hx1
        try clear c2
        try clear c2b0
        try clear p2
        try clear c3
        try clear c3b0
        try clear c5
        try clear c5b0
        try clear c5b1
        try clear hx116_0
        try clear hx116_1
        try clear p1
        try clear p116
        try clear p2
        try clear q1
        try clear q116
        obtain ⟨x5_3,x6_3,rfl,rfl,HA,HK3,HB⟩:=hrel
        cases gk with
        | zero => exact absurd HA.out (by simp [spec_l5Text.l1])
        | succ k3 =>
         have H:=HA.out
         clear HA
         simp only [spec_l5Text.l1] at H
         by_cases c6 : 0 ≤ x4_1
         ·rw [if_pos c6] at H
          have c6b0 : decide (0 ≤ x4_1) = true:=decide_eq_true c6
          clear c6
          by_cases c7 : x4_1 < (l0.length : Int)
          ·rw [if_pos c7] at H
           have c7b0 : decide (x4_1 < (l0.length : Int)) = true:=decide_eq_true c7
           clear c7
           by_cases c8 : x6_3 < (((rd_T39 l0 x4_1).f1).length : Int)
           ·rw [if_pos c8] at H
            have c8b0 : decide (x6_3 < (((rd_T39 l0 x4_1).f1).length : Int)) = true:=decide_eq_true c8
            clear c8
            by_cases c9 : x5_3.size + 1 ≤ 9223372036854775807
            ·rw [if_pos c9] at H
             have c9b0:=eq_true c9
             have c9b1 : decide (x5_3.size + 1 ≤ 9223372036854775807) = true:=decide_eq_true c9
             try have c9b2 : (9223372036854775807 < x5_3.size + 1) = False:=eq_false (Nat.not_lt.2 c9)
             by_cases c10 : 0 ≤ x6_3
             ·rw [if_pos c10] at H
              have c10b0 : decide (0 ≤ x6_3) = true:=decide_eq_true c10
              clear c10
              replace H:=Option.bind_eq_some_iff.mp H
              obtain ⟨t120,A110,H⟩:=H
              replace H : (if (x5_3 ++ (⟨#[46]⟩ : ByteArray)).size + t120.size ≤ 9223372036854775807 then (spec_l5Text.l1 k3 l0 x3_1 x4_1 ((x5_3 ++ (⟨#[46]⟩ : ByteArray)) ++ t120) (wrap64 (x6_3 + 1))) else (none)) = some r:=H
              have A11:=Aside0.mk A110
              clear A110
              by_cases c12 : (x5_3 ++ (⟨#[46]⟩ : ByteArray)).size + t120.size ≤ 9223372036854775807
              ·rw [if_pos c12] at H
               have hzc12_ : (9223372036854775807 < x5_3.size + 1 + t120.size) = False:=eq_false (by have h_:=c12;simp only [ByteArray.size_append] at h_;have h0_ : (⟨#[46]⟩ : ByteArray).size = 1:=rfl;omega)
               have c12b0:=eq_true c12
               have c12b1 : decide ((x5_3 ++ (⟨#[46]⟩ : ByteArray)).size + t120.size ≤ 9223372036854775807) = true:=decide_eq_true c12
               try have c12b2 : (9223372036854775807 < (x5_3 ++ (⟨#[46]⟩ : ByteArray)).size + t120.size) = False:=eq_false (Nat.not_lt.2 c12)
               have H':=Aside0.mk H
               clear H
               have p117 : 0 ≤ (x4_1 : Int):=Up.od
               have q117 : x4_1 < (l0.length : Int):=Up.od
               obtain ⟨ad117,A117_1,c117_1,e117,hx117_0,hx117_1,hl117_1,hi117_1⟩:=at_T39 HR0.out x4_1 p117 q117
               obtain rfl : ad116 = ad117:=(by injection e117)
               replace hx117_0:=Up.hc HB hx117_0
               replace hx117_1:=Up.hc HB hx117_1
               have HR117_1:=Aside0.mk hi117_1
               have HC117_1:=Aside0.mk hl117_1
               clear hi117_1 hl117_1
               replace p117:=eq_true p117
               replace q117:=eq_true q117
               have p118 : 0 ≤ (x4_1 : Int):=Up.od
               have q118 : x4_1 < (l0.length : Int):=Up.od
               obtain ⟨ad118,A118_1,c118_1,e118,hx118_0,hx118_1,hl118_1,hi118_1⟩:=at_T39 HR0.out x4_1 p118 q118
               obtain rfl : ad116 = ad118:=(by injection e118)
               replace hx118_0:=Up.hc HB hx118_0
               replace hx118_1:=Up.hc HB hx118_1
               have HR118_1:=Aside0.mk hi118_1
               have HC118_1:=Aside0.mk hl118_1
               clear hi118_1 hl118_1
               replace p118:=eq_true p118
               replace q118:=eq_true q118
               have ea_:=Option.some.inj (hx117_1.symm.trans hx118_1)
               injection ea_ with ea_ en_ ec_
               subst ea_
               subst ec_
               clear en_
               have p119 : 0 ≤ (x6_3 : Int):=Up.od
               have q119 : x6_3 < (((rd_T39 l0 x4_1).f1).length : Int):=Up.od
               obtain ⟨ad119,e119,hx119_0⟩:=Kd.at_int HR118_1.out x6_3 p119 q119
               cases e119
               replace hx119_0:=Up.hc HB hx119_0
               replace p119:=eq_true p119
               replace q119:=eq_true q119
               go_wp2_with (first | ((with_reducible refine gate_callee (f:=16) rfl ?_);refine Up.gl (some 40) Tryd.func16 #[.int .i64 (rd ((rd_T39 l0 x4_1).f1) x6_3)] ?_;(with_reducible refine (spec_l6Dec.calls k3 (rd ((rd_T39 l0 x4_1).f1) x6_3) t120 _ A11.out).mono ?_);rintro e w13 ⟨rfl,hb⟩;refine ⟨_,rfl,?_⟩;have n0_:=Up.BB HB hb;clear HB;have HB:=n0_;clear n0_;(try clear hb);(try clear hb2);(try clear hk);(try clear hi)))
               go_roundg k3
               case measure => have:=HK1.out;have:=HJ3.out;have:=HK3.out;omega
               case rel => exact ⟨((x5_3 ++ (⟨#[46]⟩ : ByteArray)) ++ t120),(wrap64 (x6_3 + 1)),(by first | rfl | (simp;done) | (simp [*];done)),(by first | rfl | (simp;done) | (simp [*];done)),H',⟨by have:=HK1.out;have:=HJ3.out;have:=HK3.out;omega⟩,⟨Up.Bup HB⟩⟩
              ·rw [if_neg c12] at H
               exact absurd H (by simp)
             ·rw [if_neg c10] at H
              exact absurd H (by simp)
            ·rw [if_neg c9] at H
             exact absurd H (by simp)
           ·rw [if_neg c8] at H
            have c8b0 : decide (x6_3 < (((rd_T39 l0 x4_1).f1).length : Int)) = false:=decide_eq_false c8
            clear c8
            by_cases c14 : x3_1.size + 1 ≤ 9223372036854775807
            ·rw [if_pos c14] at H
             have c14b0:=eq_true c14
             have c14b1 : decide (x3_1.size + 1 ≤ 9223372036854775807) = true:=decide_eq_true c14
             try have c14b2 : (9223372036854775807 < x3_1.size + 1) = False:=eq_false (Nat.not_lt.2 c14)
             by_cases c15 : (x3_1 ++ (⟨#[32]⟩ : ByteArray)).size + x5_3.size ≤ 9223372036854775807
             ·rw [if_pos c15] at H
              have hzc15_ : (9223372036854775807 < x3_1.size + 1 + x5_3.size) = False:=eq_false (by have h_:=c15;simp only [ByteArray.size_append] at h_;have h0_ : (⟨#[32]⟩ : ByteArray).size = 1:=rfl;omega)
              have c15b0:=eq_true c15
              have c15b1 : decide ((x3_1 ++ (⟨#[32]⟩ : ByteArray)).size + x5_3.size ≤ 9223372036854775807) = true:=decide_eq_true c15
              try have c15b2 : (9223372036854775807 < (x3_1 ++ (⟨#[32]⟩ : ByteArray)).size + x5_3.size) = False:=eq_false (Nat.not_lt.2 c15)
              have H':=Aside0.mk H
              clear H
              have p117 : 0 ≤ (x4_1 : Int):=Up.od
              have q117 : x4_1 < (l0.length : Int):=Up.od
              obtain ⟨ad117,A117_1,c117_1,e117,hx117_0,hx117_1,hl117_1,hi117_1⟩:=at_T39 HR0.out x4_1 p117 q117
              obtain rfl : ad116 = ad117:=(by injection e117)
              replace hx117_0:=Up.hc HB hx117_0
              replace hx117_1:=Up.hc HB hx117_1
              have HR117_1:=Aside0.mk hi117_1
              have HC117_1:=Aside0.mk hl117_1
              clear hi117_1 hl117_1
              replace p117:=eq_true p117
              replace q117:=eq_true q117
              go_wp2
              go_roundg k3
              case measure => have:=HK1.out;have:=HJ3.out;have:=HK3.out;omega
              case rel => exact ⟨((x3_1 ++ (⟨#[32]⟩ : ByteArray)) ++ x5_3),(wrap64 (x4_1 + 1)),(by first | rfl | (simp;done) | (simp [*];done)),(by first | rfl | (simp;done) | (simp [*];done)),H',⟨by have:=HK1.out;have:=HJ3.out;have:=HK3.out;omega⟩,⟨Up.Bup HB⟩⟩
             ·rw [if_neg c15] at H
              exact absurd H (by simp)
            ·rw [if_neg c14] at H
             exact absurd H (by simp)
          ·rw [if_neg c7] at H
           exact absurd H (by simp)
         ·rw [if_neg c6] at H
          exact absurd H (by simp)
    ·rw [if_neg c3] at H
     exact absurd H (by simp)
   ·rw [if_neg c2] at H
    have c2b0 : decide (x4_1 < (l0.length : Int)) = false:=decide_eq_false c2
    clear c2
    obtain rfl:=Option.some.inj H
    go_wp2
    go_ret
    exact Up.e1 (Up.Bup HB)

/-! ### spec_ShapeText: function 5 -/
def spec_ShapeText.f (k : Nat) (l0_0 : List (S39)) (l0_1 : List (S39)) : Option (ByteArray):=(spec_l5Text.f k l0_0).bind fun t122 => (if t122.size + 2 ≤ 9223372036854775807 then ((spec_l5Text.f k l0_1).bind fun t123 => (if (t122 ++ (⟨#[32,124]⟩ : ByteArray)).size + t123.size ≤ 9223372036854775807 then (if 1 ≤ (((t122 ++ (⟨#[32,124]⟩ : ByteArray)) ++ t123).size : Int) then (some (((t122 ++ (⟨#[32,124]⟩ : ByteArray)) ++ t123).extract 1 ((t122 ++ (⟨#[32,124]⟩ : ByteArray)) ++ t123).size)) else (none)) else (none))) else (none))
theorem spec_ShapeText.mono : ∀ a0 a1 k,LeO (spec_ShapeText.f k a0 a1) (spec_ShapeText.f (k + 1) a0 a1):=by
 intro a0 a1 k
 unfold spec_ShapeText.f
 repeat' first
   | (with_reducible exact spec_l5Text.mono _ _)
   | (with_reducible exact LeO.refl _)
   | (with_reducible exact LeO.none _)
   | (with_reducible refine LeO.ite ?_ ?_)
   | (with_reducible refine LeO.bind ?_ (fun _ => ?_))
   | exact spec_l5Text.mono _ _
   | exact LeO.none _
   | refine LeO.ite ?_ ?_
   | refine LeO.bind ?_ (fun _ => ?_)
def spec_ShapeText.T1 : Bool × List (List Nat × List Nat):=(true,[([],[]),([0],[0]),([1],[1]),([2],[2]),([],[]),([4],[4]),([5,2],[5]),([3,6],[3,6]),([7,6,0,1,2,3,4,5,6,7],[7])])
def spec_ShapeText.B1 : List Nat:=[0,1,3,7,0,16,55,127,255]
theorem spec_ShapeText.tab1 : rtab .any (opsOf Tryd.f5 1) = spec_ShapeText.T1:=by kernel_rfl
theorem spec_ShapeText.bits1 : waitsOk spec_ShapeText.T1.2 spec_ShapeText.B1 = true:=by kernel_rfl
set_option maxHeartbeats 8000000 in
set_option maxRecDepth 100000 in
theorem spec_ShapeText.calls (k : Nat) (A0_0 : Option Addr) (c0_0 : Nat) (l0_0 : List (S39)) (A0_1 : Option Addr) (c0_1 : Nat) (l0_1 : List (S39)) (r : ByteArray) (w : World) (hr0_0 : Kd.C k39 w A0_0 l0_0.length l0_0) (hc0_0 : l0_0.length ≤ c0_0) (hr0_1 : Kd.C k39 w A0_1 l0_1.length l0_1) (hc0_1 : l0_1.length ≤ c0_1) (h : spec_ShapeText.f k l0_0 l0_1 = some r) :
  Calls Tryd.prog 5 #[.agg #[.slice A0_0 l0_0.length c0_0,.slice A0_1 l0_1.length c0_1]] w fun e w' => e = .returned (.string r) ∧ Below w.heap.size w w':=by
 have hu29:=Tryd.underlying29
 have HR0_0:=Aside0.mk hr0_0
 have HC0_0:=Aside0.mk hc0_0
 clear hr0_0 hc0_0
 have HR0_1:=Aside0.mk hr0_1
 have HC0_1:=Aside0.mk hc0_1
 clear hr0_1 hc0_1
 have HB:=Aside0.mk (Below.refl w.heap.size w)
 have H : ((spec_l5Text.f k l0_0).bind fun t122 => (if t122.size + 2 ≤ 9223372036854775807 then ((spec_l5Text.f k l0_1).bind fun t123 => (if (t122 ++ (⟨#[32,124]⟩ : ByteArray)).size + t123.size ≤ 9223372036854775807 then (if 1 ≤ (((t122 ++ (⟨#[32,124]⟩ : ByteArray)) ++ t123).size : Int) then (some (((t122 ++ (⟨#[32,124]⟩ : ByteArray)) ++ t123).extract 1 ((t122 ++ (⟨#[32,124]⟩ : ByteArray)) ++ t123).size)) else (none)) else (none))) else (none))) = some r:=h
 clear h
 replace H:=Option.bind_eq_some_iff.mp H
 obtain ⟨t122,A20,H⟩:=H
 replace H : (if t122.size + 2 ≤ 9223372036854775807 then ((spec_l5Text.f k l0_1).bind fun t123 => (if (t122 ++ (⟨#[32,124]⟩ : ByteArray)).size + t123.size ≤ 9223372036854775807 then (if 1 ≤ (((t122 ++ (⟨#[32,124]⟩ : ByteArray)) ++ t123).size : Int) then (some (((t122 ++ (⟨#[32,124]⟩ : ByteArray)) ++ t123).extract 1 ((t122 ++ (⟨#[32,124]⟩ : ByteArray)) ++ t123).size)) else (none)) else (none))) else (none)) = some r:=H
 have A2:=Aside0.mk A20
 clear A20
 by_cases c3 : t122.size + 2 ≤ 9223372036854775807
 ·rw [if_pos c3] at H
  have c3b0:=eq_true c3
  have c3b1 : decide (t122.size + 2 ≤ 9223372036854775807) = true:=decide_eq_true c3
  try have c3b2 : (9223372036854775807 < t122.size + 2) = False:=eq_false (Nat.not_lt.2 c3)
  replace H:=Option.bind_eq_some_iff.mp H
  obtain ⟨t123,A40,H⟩:=H
  replace H : (if (t122 ++ (⟨#[32,124]⟩ : ByteArray)).size + t123.size ≤ 9223372036854775807 then (if 1 ≤ (((t122 ++ (⟨#[32,124]⟩ : ByteArray)) ++ t123).size : Int) then (some (((t122 ++ (⟨#[32,124]⟩ : ByteArray)) ++ t123).extract 1 ((t122 ++ (⟨#[32,124]⟩ : ByteArray)) ++ t123).size)) else (none)) else (none)) = some r:=H
  have A4:=Aside0.mk A40
  clear A40
  by_cases c5 : (t122 ++ (⟨#[32,124]⟩ : ByteArray)).size + t123.size ≤ 9223372036854775807
  ·rw [if_pos c5] at H
   have hzc5_ : (9223372036854775807 < t122.size + 2 + t123.size) = False:=eq_false (by have h_:=c5;simp only [ByteArray.size_append] at h_;have h0_ : (⟨#[32,124]⟩ : ByteArray).size = 2:=rfl;omega)
   have c5b0:=eq_true c5
   have c5b1 : decide ((t122 ++ (⟨#[32,124]⟩ : ByteArray)).size + t123.size ≤ 9223372036854775807) = true:=decide_eq_true c5
   try have c5b2 : (9223372036854775807 < (t122 ++ (⟨#[32,124]⟩ : ByteArray)).size + t123.size) = False:=eq_false (Nat.not_lt.2 c5)
   by_cases c6 : 1 ≤ (((t122 ++ (⟨#[32,124]⟩ : ByteArray)) ++ t123).size : Int)
   ·rw [if_pos c6] at H
    have c6b0:=eq_true c6
    have c6b1 : decide (1 ≤ (((t122 ++ (⟨#[32,124]⟩ : ByteArray)) ++ t123).size : Int)) = true:=decide_eq_true c6
    obtain rfl:=Option.some.inj H
    go_enter Tryd.func5,Tryd.ntmps5
    try go_wp2_with (first | ((with_reducible refine gate_dst (N:=1) rfl ?_);refine Up.bx 1 29 #[.slice A0_0 l0_0.length c0_0,.slice A0_1 l0_1.length c0_1] ?_;intro gb121 hg w7 hbox hb;have n0_:=Up.BB HB hb;have n1_:=Aside0.mk (hbox);have n2_:=Up.gw hg HB;have n3_:=Up.gw hg HB;clear HB;have HB:=n0_;have BK121:=n1_;have GW121:=n2_;have GE121:=n3_;clear n0_ n1_ n2_ n3_ hb hbox hg))
    have n0_:=Aside0.mk (blk_drew BK121.out)
    have n1_:=Aside0.mk (below_drew1 HB.out)
    clear BK121
    clear HB
    have BK121:=n0_
    have HB:=n1_
    clear n0_ n1_
    refine start_ (n:=9) (S:=fun w' => w'.cell? ⟨gb121,0,none⟩ = some (.slice A0_0 l0_0.length c0_0) ∧ w'.cell? ⟨gb121,1,none⟩ = some (.slice A0_1 l0_1.length c0_1)) (ds:=[]) #[false,false,false,false,false,false,false,false,false] (by kernel_rfl) rfl rfl ⟨Up.c0 BK121,Up.c1 BK121⟩ (fun hHeld => ?_);refine with_tabW spec_ShapeText.tab1 spec_ShapeText.bits1 (fun HT_ HW_ => ?_)
    generalize w7.drew = w8 at BK121 HB hHeld ⊢
    refine Up.pu 0 (some 4) HT_ ?_
    refine Up.pu 4 (some 8) HT_ ?_
    refine Up.tk 1 (some 5) HT_ HW_ hHeld ?_ (hy:=by rintro w' ⟨s0,s1⟩;go_simp;with_reducible rfl)
    refine Up.tk 5 (some 9) HT_ HW_ hHeld ?_ (hy:=by rintro w' ⟨s0,s1⟩;go_simp;with_reducible rfl)
    refine Up.on 2 (some 6) HT_ (fun K hK => ?_)
    refine Up.go Tryd.func10 #[.slice A0_0 l0_0.length c0_0] ?_
    with_reducible refine (spec_l5Text.calls k _ _ l0_0 t122 _ ?side1 ?side2 A2.out).mono ?_
    (case side1 => exact Up.Cx HR0_0 HB)
    (case side2 => exact HC0_0.out)
    rintro e w9 ⟨rfl,hb⟩
    refine ⟨_,rfl,?_⟩
    have n0_:=Up.KB BK121 hb
    have n1_:=Aside0.mk (below_step (Up.Bx HB) hb)
    clear BK121
    clear HB
    have BK121:=n0_
    have HB:=n1_
    clear n0_ n1_
    (try clear hb)
    (try clear hb2)
    (try clear hk)
    (try clear hi)
    refine hK.out _ _ ⟨Up.c0 BK121,Up.c1 BK121⟩ (fun hHeld => ?_)
    clear hK K
    refine Up.nm 6 ?_
    refine Up.pu 3 (some 7) HT_ ?_
    refine Up.on 6 (some 10) HT_ (fun K hK => ?_)
    refine Up.go Tryd.func10 #[.slice A0_1 l0_1.length c0_1] ?_
    with_reducible refine (spec_l5Text.calls k _ _ l0_1 t123 _ ?side1 ?side2 A4.out).mono ?_
    (case side1 => exact Up.Cx HR0_1 HB)
    (case side2 => exact HC0_1.out)
    rintro e w10 ⟨rfl,hb⟩
    refine ⟨_,rfl,?_⟩
    have n0_:=Up.KB BK121 hb
    have n1_:=Aside0.mk (below_step (Up.Bx HB) hb)
    clear BK121
    clear HB
    have BK121:=n0_
    have HB:=n1_
    clear n0_ n1_
    (try clear hb)
    (try clear hb2)
    (try clear hk)
    (try clear hi)
    refine hK.out _ _ ⟨Up.c0 BK121,Up.c1 BK121⟩ (fun hHeld => ?_)
    clear hK K
    refine Up.nm 10 ?_
    refine Up.pu 7 (some 11) HT_ ?_
    refine Up.pu 8 (some 3) HT_ ?_
    refine done_ (done_of HT_.out (by kernel_rfl)) ?_
    try go_wp2
    go_ret
    exact Up.e1 (Up.Bx HB)
   ·rw [if_neg c6] at H
    exact absurd H (by simp)
  ·rw [if_neg c5] at H
   exact absurd H (by simp)
 ·rw [if_neg c3] at H
  exact absurd H (by simp)

/-! ### laws_toIntS: function 24 -/
def laws_toIntS.l0 : Nat → List Int → List Int → Int → Option (List Int)
 | 0,_,_,_ => none
 | k + 1,x0,x3,x4 => if x4 < (x0.length : Int) then (if 0 ≤ x4 then (if x4 < (x3.length : Int) then (laws_toIntS.l0 k x0 (x3.set (x4 : Int).toNat (rd x0 x4)) (wrap64 (x4 + 1))) else (none)) else (none)) else (some x3)
def laws_toIntS.f (k : Nat) (l0 : List Int) : Option (List Int):=if 0 ≤ (l0.length : Int) then (if ((l0.length : Int) : Int).toNat ≤ 35184372088832 then (laws_toIntS.l0 k l0 (List.replicate ((l0.length : Int) : Int).toNat 0) 0) else (none)) else (none)
theorem laws_toIntS.mono_l : ∀ k,(∀ y0 y1 y2,LeO (laws_toIntS.l0 k y0 y1 y2) (laws_toIntS.l0 (k + 1) y0 y1 y2))
 | 0 => fun _ _ _ r h => by simp [laws_toIntS.l0] at h
 | k + 1 => by
  have ih0:=laws_toIntS.mono_l k
  ·intro y0 y1 y2
   unfold laws_toIntS.l0
   repeat' first
   | (with_reducible exact ih0 _ _ _)
   | (with_reducible exact LeO.refl _)
   | (with_reducible exact LeO.none _)
   | (with_reducible refine LeO.ite ?_ ?_)
   | (with_reducible refine LeO.bind ?_ (fun _ => ?_))
   | exact ih0 _ _ _
   | exact LeO.none _
   | refine LeO.ite ?_ ?_
   | refine LeO.bind ?_ (fun _ => ?_)
theorem laws_toIntS.mono : ∀ a0 k,LeO (laws_toIntS.f k a0) (laws_toIntS.f (k + 1) a0):=by
 intro a0 k
 have ih0:=laws_toIntS.mono_l k
 unfold laws_toIntS.f
 repeat' first
   | (with_reducible exact ih0 _ _ _)
   | (with_reducible exact LeO.refl _)
   | (with_reducible exact LeO.none _)
   | (with_reducible refine LeO.ite ?_ ?_)
   | (with_reducible refine LeO.bind ?_ (fun _ => ?_))
   | exact ih0 _ _ _
   | exact LeO.none _
   | refine LeO.ite ?_ ?_
   | refine LeO.bind ?_ (fun _ => ?_)
set_option maxHeartbeats 8000000 in
set_option maxRecDepth 100000 in
theorem laws_toIntS.calls (k : Nat) (A0 : Option Addr) (c0 : Nat) (l0 : List Int) (r : List Int) (w : World) (hr0 : Kd.C (Kd.int .i64) w A0 l0.length l0) (hc0 : l0.length ≤ c0) (h : laws_toIntS.f k l0 = some r) :
  Calls Tryd.prog 24 #[.slice A0 l0.length c0] w fun e w' => ∃ v0_ : Value,e = .returned (v0_) ∧ Kd.R (Kd.int .i64) 3 w' w.heap.size (fun _ => True) v0_ r ∧ Below w.heap.size w w':=by
 have HR0:=Aside0.mk hr0
 have HC0:=Aside0.mk hc0
 clear hr0 hc0
 have HB:=Aside0.mk (Below.refl w.heap.size w)
 have H : (if 0 ≤ (l0.length : Int) then (if ((l0.length : Int) : Int).toNat ≤ 35184372088832 then (laws_toIntS.l0 k l0 (List.replicate ((l0.length : Int) : Int).toNat 0) 0) else (none)) else (none)) = some r:=h
 clear h
 by_cases c2 : 0 ≤ (l0.length : Int)
 ·rw [if_pos c2] at H
  have c2b0:=eq_true c2
  have c2b1 : decide (0 ≤ (l0.length : Int)) = true:=decide_eq_true c2
  clear c2
  by_cases c3 : ((l0.length : Int) : Int).toNat ≤ 35184372088832
  ·rw [if_pos c3] at H
   have c3b0:=eq_true c3
   have c3b1 : decide (((l0.length : Int) : Int).toNat ≤ 35184372088832) = true:=decide_eq_true c3
   clear c3
   obtain ⟨y124,hy124⟩ : ∃ y_ : List Int,y_ = (List.replicate ((l0.length : Int) : Int).toNat 0):=⟨_,rfl⟩
   replace H : (laws_toIntS.l0 k l0 y124 0) = some r:=by first | (rw [hy124];with_reducible exact H) | (have H2_:=(Option.bind_some _ _).symm.trans H;rw [hy124];with_reducible exact H2_) | (have H2_:=(Option.bind_some _ _).symm.trans H;with_reducible exact H2_) | with_reducible exact H | (rw [hy124];exact H) | exact H
   have Ny124:=Aside0.mk hy124
   clear hy124
   have H':=Aside0.mk H
   clear H
   go_enter Tryd.func24,Tryd.ntmps24
   go_wp2_with (first | ((with_reducible refine gate_dst (N:=7) rfl ?_);refine Kd.R_make (Kd.int .i64) _ 3 rfl (N:=7) rfl 37 _ _ rfl (l0.length : Int) rfl rfl Tryd.underlying37 (.int .i64 0) 8 info3 rfl (by decide) (by omega) 0 (ok:=fun _ => True) (okp:=fun _ => True) rfl (fun _ hk => hk) trivial (Up.od) (Nat.le_trans (Nat.mul_le_mul_right _ (Up.od : (l0.length : Int).toNat ≤ 35184372088832)) (by omega)) (Below.refl _ _) (Nat.le_refl _) ?_;intro v125 w4 ho5 hb hg_ hnew_;clear hg_ hnew_;(first | rw [← Ny124.out] at ho5 | (simp only [Int.reduceToNat] at ho5;rw [← Ny124.out] at ho5));have n0_:=Aside0.mk (Kd.R_lower ho5 (below_size (Up.Bup HB)));have n1_:=Up.BB HB hb;clear HB;have HO126:=n0_;have HB:=n1_;clear n0_ n1_ hb ho5))
   go_loopg [4] k (fun kq v4 w' => ∃ (x3_1 : List Int) (x4_1 : Int),v4 = .int .i64 x4_1 ∧ Aside0 (laws_toIntS.l0 kq l0 x3_1 x4_1 = some r) ∧ Aside0 (kq ≤ k) ∧ Aside0 (Kd.R (Kd.int .i64) 3 w' w.heap.size (fun _ => True) v125 x3_1) ∧ Aside0 (Below w.heap.size w w'))
   case atStart => exact ⟨(y124),(0),(by first | rfl | (simp;done) | (simp [*];done)),H',⟨Nat.le_refl _⟩,⟨Up.Rup HO126⟩,⟨Up.Bup HB⟩⟩
   case round =>
    clear H'
    try clear c2
    try clear c2b0
    try clear c2b1
    try clear p2
    try clear c3
    try clear c3b0
    try clear c3b1
    obtain ⟨x3_1,x4_1,rfl,HA,HK1,HO_3,HB⟩:=hrel
    cases gk with
    | zero => exact absurd HA.out (by simp [laws_toIntS.l0])
    | succ k1 =>
     have H:=HA.out
     clear HA
     simp only [laws_toIntS.l0] at H
     by_cases c6 : x4_1 < (l0.length : Int)
     ·rw [if_pos c6] at H
      have c6b0 : decide (x4_1 < (l0.length : Int)) = true:=decide_eq_true c6
      clear c6
      by_cases c7 : 0 ≤ x4_1
      ·rw [if_pos c7] at H
       have c7b0 : decide (0 ≤ x4_1) = true:=decide_eq_true c7
       clear c7
       by_cases c8 : x4_1 < (x3_1.length : Int)
       ·rw [if_pos c8] at H
        have c8b0 : decide (x4_1 < (x3_1.length : Int)) = true:=decide_eq_true c8
        clear c8
        obtain ⟨y128,hy128⟩ : ∃ y_ : List Int,y_ = (x3_1.set (x4_1 : Int).toNat (rd l0 x4_1)):=⟨_,rfl⟩
        replace H : (laws_toIntS.l0 k1 l0 y128 (wrap64 (x4_1 + 1))) = some r:=by first | (rw [hy128];with_reducible exact H) | (have H2_:=(Option.bind_some _ _).symm.trans H;rw [hy128];with_reducible exact H2_) | (have H2_:=(Option.bind_some _ _).symm.trans H;with_reducible exact H2_) | with_reducible exact H | (rw [hy128];exact H) | exact H
        have Ny128:=Aside0.mk hy128
        clear hy128
        have H':=Aside0.mk H
        clear H
        have p127 : 0 ≤ (x4_1 : Int):=Up.od
        have q127 : x4_1 < (l0.length : Int):=Up.od
        obtain ⟨ad127,e127,hx127_0⟩:=Kd.at_int HR0.out x4_1 p127 q127
        cases e127
        replace hx127_0:=Up.hc HB hx127_0
        replace p127:=eq_true p127
        replace q127:=eq_true q127
        have p9 : 0 ≤ (x4_1 : Int):=Up.od
        have q9 : (x4_1 : Int) < ((x3_1.length : Int) : Int):=Up.od
        obtain ⟨go9,co9,eo9,gb9,gl9,cl9,HG9⟩:=Kd.R_form HO_3.out (by omega)
        (first | cases eo9 | (injection eo9 with ea_ en_ ec_;(first | subst ea_ | (injection ea_ with ea_;subst ea_));subst ec_;clear en_))
        have GB9:=Aside0.mk gb9
        have GG9:=Aside0.mk HG9
        clear gb9 gl9 HG9
        obtain ⟨hx9_0,hf9_0⟩:=Kd.R_celln 0 HO_3.out (x4_1 : Int) p9 q9
        replace p9:=eq_true p9
        replace q9:=eq_true q9
        have HP10:=Kd.R_putg HO_3.out (x4_1 : Int) (rd l0 x4_1)
        go_wp2_with (first | ((with_reducible refine gate_store (t:=3) (p:=20) rfl ?_);refine store_event (t:=3) (p:=20) (v:=?vo_w11) (w1:=(wr.setCell ⟨go9,(x4_1 : Int).toNat,none⟩ (.int .i64 (rd l0 x4_1)))) ?hg ?ho ?hn ?hr ?_;(case ho => rfl);(case hg => rfl);(case hn => rfl);(case hr => first | (go_simp;done) | (go_simp;rfl));intro w11 hw;have hg : wr.grownBy w11 (some go9):=(by rw [hw];exact HP10.2);have hp_ : Kd.R (Kd.int .i64) 3 w11 w.heap.size (fun _ => True) (.slice (some ⟨go9,0,none⟩) x3_1.length co9) y128:=(by rw [hw,Ny128.out];exact HP10.1);clear HP10;have n0_:=Aside0.mk (hp_);have n1_:=Aside0.mk ((by rw [hw];exact below_set (HB.out) GB9.out : Below w.heap.size w w11));clear HO_3 HB;have HO_3:=n0_;have HB:=n1_;clear n0_ n1_ hg hw hp_))
        go_roundg k1
        case measure => have:=HK1.out;omega
        case rel => exact ⟨(y128),(wrap64 (x4_1 + 1)),(by first | rfl | (simp;done) | (simp [*];done)),H',⟨by have:=HK1.out;omega⟩,⟨Up.Rup HO_3⟩,⟨Up.Bup HB⟩⟩
       ·rw [if_neg c8] at H
        exact absurd H (by simp)
      ·rw [if_neg c7] at H
       exact absurd H (by simp)
     ·rw [if_neg c6] at H
      have c6b0 : decide (x4_1 < (l0.length : Int)) = false:=decide_eq_false c6
      clear c6
      obtain rfl:=Option.some.inj H
      go_wp2
      go_ret
      exact ⟨_,by first | rfl | (simp [errW_none,errW_some] <;> rfl) | (simp [*,errW_none,errW_some] <;> rfl),Up.Rup HO_3,Up.Bup HB⟩
  ·rw [if_neg c3] at H
   exact absurd H (by simp)
 ·rw [if_neg c2] at H
  exact absurd H (by simp)

/-! ### laws_toMark: function 17 -/
def laws_toMark.f (k : Nat) (a0_0 : ByteArray) (l0_1 : List Int) : Option (ByteArray × List Int):=(laws_toIntS.f k l0_1).bind fun t132 => (some (a0_0,t132))
theorem laws_toMark.mono : ∀ a0 a1 k,LeO (laws_toMark.f k a0 a1) (laws_toMark.f (k + 1) a0 a1):=by
 intro a0 a1 k
 unfold laws_toMark.f
 repeat' first
   | (with_reducible exact laws_toIntS.mono _ _)
   | (with_reducible exact LeO.refl _)
   | (with_reducible exact LeO.none _)
   | (with_reducible refine LeO.ite ?_ ?_)
   | (with_reducible refine LeO.bind ?_ (fun _ => ?_))
   | exact laws_toIntS.mono _ _
   | exact LeO.none _
   | refine LeO.ite ?_ ?_
   | refine LeO.bind ?_ (fun _ => ?_)
set_option maxHeartbeats 8000000 in
set_option maxRecDepth 100000 in
theorem laws_toMark.calls (k : Nat) (a0_0 : ByteArray) (A0_1 : Option Addr) (c0_1 : Nat) (l0_1 : List Int) (r1 : ByteArray) (r2 : List Int) (w : World) (hr0_1 : Kd.C (Kd.int .i64) w A0_1 l0_1.length l0_1) (hc0_1 : l0_1.length ≤ c0_1) (h : laws_toMark.f k a0_0 l0_1 = some (r1,r2)) :
  Calls Tryd.prog 17 #[.agg #[.string a0_0,.slice A0_1 l0_1.length c0_1]] w fun e w' => ∃ v1_ : Value,e = .returned (.agg #[.string r1,v1_]) ∧ Kd.R (Kd.int .i64) 3 w' w.heap.size (fun _ => True) v1_ r2 ∧ Below w.heap.size w w':=by
 have hu44:=Tryd.underlying44
 have hu39:=Tryd.underlying39
 have HR0_1:=Aside0.mk hr0_1
 have HC0_1:=Aside0.mk hc0_1
 clear hr0_1 hc0_1
 have HB:=Aside0.mk (Below.refl w.heap.size w)
 have H : ((laws_toIntS.f k l0_1).bind fun t132 => (some (a0_0,t132))) = some (r1,r2):=h
 clear h
 replace H:=Option.bind_eq_some_iff.mp H
 obtain ⟨t132,A20,H⟩:=H
 replace H : (some (a0_0,t132)) = some (r1,r2):=H
 have A2:=Aside0.mk A20
 clear A20
 simp only [Option.some.injEq,Prod.mk.injEq] at H
 obtain ⟨rfl,rfl⟩:=H
 go_enter Tryd.func17,Tryd.ntmps17
 go_wp2_with (first | ((with_reducible refine gate_dst (N:=1) rfl ?_);refine Up.bx 1 44 #[.string a0_0,.slice A0_1 l0_1.length c0_1] ?_;intro gb129 hg w3 hbox hb;have n0_:=Up.BB HB hb;have n1_:=Aside0.mk (hbox);have n2_:=Up.gw hg HB;have n3_:=Up.gw hg HB;clear HB;have HB:=n0_;have BK129:=n1_;have GW129:=n2_;have GE129:=n3_;clear n0_ n1_ n2_ n3_ hb hbox hg) | ((with_reducible refine gate_dst (N:=2) rfl ?_);refine Up.bx 2 39 #[.string (⟨#[]⟩ : ByteArray),.slice none 0 0] ?_;intro gb130 hg w4 hbox hb;have n0_:=Up.KB BK129 hb;have n1_:=Aside0.mk (below_step (Up.Bx HB) hb);have n2_:=Aside0.mk (hbox);have n3_:=Up.gw hg HB;have n4_:=Up.gw hg HB;have n5_:=Up.nl hg BK129;have n6_:=Up.ng hg BK129;clear BK129 HB;have BK129:=n0_;have HB:=n1_;have BK130:=n2_;have GW130:=n3_;have GE130:=n4_;have NB129_130:=n5_;have NB130_129:=n6_;clear n0_ n1_ n2_ n3_ n4_ n5_ n6_ hb hbox hg) | ((with_reducible refine gate_dst (N:=3) rfl ?_);refine Up.bx 3 39 #[.string (⟨#[]⟩ : ByteArray),.slice none 0 0] ?_;intro gb131 hg w5 hbox hb;have n0_:=Up.KB BK129 hb;have n1_:=Up.KB BK130 hb;have n2_:=Aside0.mk (below_step (Up.Bx HB) hb);have n3_:=Aside0.mk (hbox);have n4_:=Up.gw hg HB;have n5_:=Up.gw hg HB;have n6_:=Up.nl hg BK129;have n7_:=Up.ng hg BK129;have n8_:=Up.nl hg BK130;have n9_:=Up.ng hg BK130;clear BK129 BK130 HB;have BK129:=n0_;have BK130:=n1_;have HB:=n2_;have BK131:=n3_;have GW131:=n4_;have GE131:=n5_;have NB129_131:=n6_;have NB131_129:=n7_;have NB130_131:=n8_;have NB131_130:=n9_;clear n0_ n1_ n2_ n3_ n4_ n5_ n6_ n7_ n8_ n9_ hb hbox hg;have hnb6:=NB129_130.out;have hnc6:=NB130_129.out;have hnb7:=NB129_131.out;have hnc7:=NB131_129.out;have hcz8_0:=Up.c0 BK129;have hcz8_1:=Up.c1 BK129;have hfz8_0:=blk_frozen BK129.out 0;have hfz8_1:=blk_frozen BK129.out 1;have hnb9:=NB131_130.out;have hnc9:=NB130_131.out;have hcz10_0:=Up.c0 BK131;have hcz10_1:=Up.c1 BK131;have hfz10_0:=blk_frozen BK131.out 0;have hfz10_1:=blk_frozen BK131.out 1) | ((with_reducible refine gate_callee (f:=24) rfl ?_);refine Up.gl (some 9) Tryd.func24 #[.slice A0_1 l0_1.length c0_1] ?_;(with_reducible refine (laws_toIntS.calls k _ _ l0_1 t132 _ ?side1 ?side2 A2.out).mono ?_);(case side1 => exact Kd.C_below HR0_1.out (Up.Bx HB));(case side2 => exact HC0_1.out);rintro e w11 ⟨v133,rfl,ho0,hb⟩;refine ⟨_,rfl,?_⟩;have n0_:=Aside0.mk (Kd.R_lower ho0 (below_size (Up.Bx HB)));have n1_:=Aside0.mk (blk_below (g:=gb129) (o:=.cells #[.string a0_0,.slice A0_1 l0_1.length c0_1] 44 (0,0)) (Up.Kx BK129) hb);have n2_:=Aside0.mk (blk_below (g:=gb130) (o:=.cells #[.string (⟨#[]⟩ : ByteArray),.slice none 0 0] 39 (0,0)) (Up.Kx BK130) hb);have n3_:=Aside0.mk (blk_below (g:=gb131) (o:=.cells #[.string a0_0,.slice none 0 0] 39 (0,0)) (Up.Kx BK131) hb);have n4_:=Aside0.mk (below_step (Up.Bx HB) hb);clear BK129 BK130 BK131 HB;have HO134:=n0_;have BK129:=n1_;have BK130:=n2_;have BK131:=n3_;have HB:=n4_;clear n0_ n1_ n2_ n3_ n4_;(try clear hb);(try clear hb2);(try clear hk);(try clear hi);(try clear ho0);obtain ⟨Ao12,co12,eo12⟩:=Kd.R_slice HO134.out;subst eo12;have hcz13_0:=Up.c0 BK131;have hcz13_1:=Up.c1 BK131;have hfz13_0:=blk_frozen BK131.out 0;have hfz13_1:=blk_frozen BK131.out 1;have hcz14_0:=Up.c0 BK130;have hcz14_1:=Up.c1 BK130;have hfz14_0:=blk_frozen BK130.out 0;have hfz14_1:=blk_frozen BK130.out 1))
 refine bodyPost_ret (results_cell_row rfl _ _ gb130 39 #[.string a0_0,.slice Ao12 t132.length co12] (0,0) _ rfl (Up.Kx BK130) Tryd.underlying39 rfl (by kernel_rfl)) rfl ?_
 exact ⟨_,by first | rfl | (simp [errW_none,errW_some] <;> rfl) | (simp [*,errW_none,errW_some] <;> rfl),by (with_reducible repeat (first | apply Kd.R_alloc | apply Kd.R_drewN | apply Kd.R_drew));exact Kd.R_mono (Kd.R_far (p:=⟨gb130,1,none⟩) (Kd.R_far (p:=⟨gb130,0,none⟩) (Kd.R_far (p:=⟨gb131,1,none⟩) (Kd.R_types (Kd.R_types HO134.out BK131.out (by decide)) BK130.out (by decide)) (fun _ hk => hk.1.2) (.slice Ao12 t132.length co12)) (fun _ hk => hk.2) (.string a0_0)) (fun _ hk => hk.2) (.slice Ao12 t132.length co12)) (fun _ hk => trivial),Up.Bx HB⟩

/-! ### laws_toMarkS: function 11 -/
def laws_toMarkS.l0 : Nat → List (S44) → List (S39) → Int → Option ((List (S39)))
 | 0,_,_,_ => none
 | k + 1,x0,x3,x4 => if x4 < (x0.length : Int) then (if 0 ≤ x4 then ((laws_toMark.f k ((rd_T44 x0 x4).f0) ((rd_T44 x0 x4).f1)).bind fun bt139 => (if x4 < (x3.length : Int) then (laws_toMarkS.l0 k x0 (x3.set (x4 : Int).toNat (⟨bt139.1,bt139.2⟩ : S39)) (wrap64 (x4 + 1))) else (none))) else (none)) else (some x3)
def laws_toMarkS.f (k : Nat) (l0 : List (S44)) : Option ((List (S39))):=if 0 ≤ (l0.length : Int) then (if ((l0.length : Int) : Int).toNat ≤ 7036874417766 then (laws_toMarkS.l0 k l0 (List.replicate ((l0.length : Int) : Int).toNat z39) 0) else (none)) else (none)
theorem laws_toMarkS.mono_l : ∀ k,(∀ y0 y1 y2,LeO (laws_toMarkS.l0 k y0 y1 y2) (laws_toMarkS.l0 (k + 1) y0 y1 y2))
 | 0 => fun _ _ _ r h => by simp [laws_toMarkS.l0] at h
 | k + 1 => by
  have ih0:=laws_toMarkS.mono_l k
  ·intro y0 y1 y2
   unfold laws_toMarkS.l0
   repeat' first
   | (with_reducible exact ih0 _ _ _)
   | (with_reducible exact laws_toMark.mono _ _ _)
   | (with_reducible exact LeO.refl _)
   | (with_reducible exact LeO.none _)
   | (with_reducible refine LeO.ite ?_ ?_)
   | (with_reducible refine LeO.bind ?_ (fun _ => ?_))
   | exact ih0 _ _ _
   | exact laws_toMark.mono _ _ _
   | exact LeO.none _
   | refine LeO.ite ?_ ?_
   | refine LeO.bind ?_ (fun _ => ?_)
theorem laws_toMarkS.mono : ∀ a0 k,LeO (laws_toMarkS.f k a0) (laws_toMarkS.f (k + 1) a0):=by
 intro a0 k
 have ih0:=laws_toMarkS.mono_l k
 unfold laws_toMarkS.f
 repeat' first
   | (with_reducible exact ih0 _ _ _)
   | (with_reducible exact laws_toMark.mono _ _ _)
   | (with_reducible exact LeO.refl _)
   | (with_reducible exact LeO.none _)
   | (with_reducible refine LeO.ite ?_ ?_)
   | (with_reducible refine LeO.bind ?_ (fun _ => ?_))
   | exact ih0 _ _ _
   | exact laws_toMark.mono _ _ _
   | exact LeO.none _
   | refine LeO.ite ?_ ?_
   | refine LeO.bind ?_ (fun _ => ?_)
set_option maxHeartbeats 8000000 in
set_option maxRecDepth 100000 in
theorem laws_toMarkS.calls (k : Nat) (A0 : Option Addr) (c0 : Nat) (l0 : List (S44)) (r : List (S39)) (w : World) (hr0 : Kd.C k44 w A0 l0.length l0) (hc0 : l0.length ≤ c0) (h : laws_toMarkS.f k l0 = some r) :
  Calls Tryd.prog 11 #[.slice A0 l0.length c0] w fun e w' => ∃ v0_ : Value,e = .returned (v0_) ∧ Kd.S k39 39 w' w.heap.size (fun _ => True) v0_ r ∧ Below w.heap.size w w':=by
 have hu44:=Tryd.underlying44
 have hu39:=Tryd.underlying39
 have HR0:=Aside0.mk hr0
 have HC0:=Aside0.mk hc0
 clear hr0 hc0
 have HB:=Aside0.mk (Below.refl w.heap.size w)
 have H : (if 0 ≤ (l0.length : Int) then (if ((l0.length : Int) : Int).toNat ≤ 7036874417766 then (laws_toMarkS.l0 k l0 (List.replicate ((l0.length : Int) : Int).toNat z39) 0) else (none)) else (none)) = some r:=h
 clear h
 by_cases c2 : 0 ≤ (l0.length : Int)
 ·rw [if_pos c2] at H
  have c2b0:=eq_true c2
  have c2b1 : decide (0 ≤ (l0.length : Int)) = true:=decide_eq_true c2
  clear c2
  by_cases c3 : ((l0.length : Int) : Int).toNat ≤ 7036874417766
  ·rw [if_pos c3] at H
   have c3b0:=eq_true c3
   have c3b1 : decide (((l0.length : Int) : Int).toNat ≤ 7036874417766) = true:=decide_eq_true c3
   clear c3
   obtain ⟨y135,hy135⟩ : ∃ y_ : List (S39),y_ = (List.replicate ((l0.length : Int) : Int).toNat z39):=⟨_,rfl⟩
   replace H : (laws_toMarkS.l0 k l0 y135 0) = some r:=by first | (rw [hy135];with_reducible exact H) | (have H2_:=(Option.bind_some _ _).symm.trans H;rw [hy135];with_reducible exact H2_) | (have H2_:=(Option.bind_some _ _).symm.trans H;with_reducible exact H2_) | with_reducible exact H | (rw [hy135];exact H) | exact H
   have Ny135:=Aside0.mk hy135
   clear hy135
   have H':=Aside0.mk H
   clear H
   go_enter Tryd.func11,Tryd.ntmps11
   go_wp2_with (first | ((with_reducible refine gate_dst (N:=7) rfl ?_);refine Kd.S_make k39 _ 39 rfl (N:=7) rfl 27 _ _ rfl (l0.length : Int) rfl rfl Tryd.underlying27 (.agg #[(.string ⟨#[]⟩),(.slice none 0 0)]) 40 info39 rfl (by decide) (by omega) z39 (ok:=fun _ => True) (okp:=fun _ => True) (k39_mkM _ _ _ z39 (Kd.R_nil _ _ _ _ _)) (fun _ hk => hk) trivial (Up.od) (Nat.le_trans (Nat.mul_le_mul_right _ (Up.od : (l0.length : Int).toNat ≤ 7036874417766)) (by omega)) (Below.refl _ _) (Nat.le_refl _) ?_;intro v136 w4 ho5 hb hg_ hnew_;clear hg_ hnew_;(first | rw [← Ny135.out] at ho5 | (simp only [Int.reduceToNat] at ho5;rw [← Ny135.out] at ho5));have n0_:=Aside0.mk (Kd.S_lower ho5 (below_size (Up.Bup HB)));have n1_:=Up.BB HB hb;clear HB;have HO137:=n0_;have HB:=n1_;clear n0_ n1_ hb ho5))
   go_loopg [4] k (fun kq v4 w' => ∃ (x3_1 : List (S39)) (x4_1 : Int),v4 = .int .i64 x4_1 ∧ Aside0 (laws_toMarkS.l0 kq l0 x3_1 x4_1 = some r) ∧ Aside0 (kq ≤ k) ∧ Aside0 (Kd.S k39 39 w' w.heap.size (fun _ => True) v136 x3_1) ∧ Aside0 (Below w.heap.size w w'))
   case atStart => exact ⟨(y135),(0),(by first | rfl | (simp;done) | (simp [*];done)),H',⟨Nat.le_refl _⟩,⟨Up.Sup HO137⟩,⟨Up.Bup HB⟩⟩
   case round =>
    clear H'
    try clear c1
    try clear c2
    try clear c2b0
    try clear c2b1
    try clear p2
    try clear c3
    try clear c3b0
    try clear c3b1
    obtain ⟨x3_1,x4_1,rfl,HA,HK1,HO_3,HB⟩:=hrel
    cases gk with
    | zero => exact absurd HA.out (by simp [laws_toMarkS.l0])
    | succ k1 =>
     have H:=HA.out
     clear HA
     simp only [laws_toMarkS.l0] at H
     by_cases c6 : x4_1 < (l0.length : Int)
     ·rw [if_pos c6] at H
      have c6b0 : decide (x4_1 < (l0.length : Int)) = true:=decide_eq_true c6
      clear c6
      by_cases c7 : 0 ≤ x4_1
      ·rw [if_pos c7] at H
       have c7b0 : decide (0 ≤ x4_1) = true:=decide_eq_true c7
       clear c7
       replace H:=Option.bind_eq_some_iff.mp H
       obtain ⟨⟨t139,t140⟩,A80,H⟩:=H
       replace H : (if x4_1 < (x3_1.length : Int) then (laws_toMarkS.l0 k1 l0 (x3_1.set (x4_1 : Int).toNat (⟨t139,t140⟩ : S39)) (wrap64 (x4_1 + 1))) else (none)) = some r:=H
       have A8:=Aside0.mk A80
       clear A80
       by_cases c9 : x4_1 < (x3_1.length : Int)
       ·rw [if_pos c9] at H
        have c9b0 : decide (x4_1 < (x3_1.length : Int)) = true:=decide_eq_true c9
        clear c9
        obtain ⟨y143,hy143⟩ : ∃ y_ : List (S39),y_ = (x3_1.set (x4_1 : Int).toNat (⟨t139,t140⟩ : S39)):=⟨_,rfl⟩
        replace H : (laws_toMarkS.l0 k1 l0 y143 (wrap64 (x4_1 + 1))) = some r:=by first | (rw [hy143];with_reducible exact H) | (have H2_:=(Option.bind_some _ _).symm.trans H;rw [hy143];with_reducible exact H2_) | (have H2_:=(Option.bind_some _ _).symm.trans H;with_reducible exact H2_) | with_reducible exact H | (rw [hy143];exact H) | exact H
        have Ny143:=Aside0.mk hy143
        clear hy143
        have H':=Aside0.mk H
        clear H
        have p138 : 0 ≤ (x4_1 : Int):=Up.od
        have q138 : x4_1 < (l0.length : Int):=Up.od
        obtain ⟨ad138,A138_1,c138_1,e138,hx138_0,hx138_1,hl138_1,hi138_1⟩:=at_T44 HR0.out x4_1 p138 q138
        cases e138
        replace hx138_0:=Up.hc HB hx138_0
        replace hx138_1:=Up.hc HB hx138_1
        have HR138_1:=Aside0.mk hi138_1
        have HC138_1:=Aside0.mk hl138_1
        clear hi138_1 hl138_1
        replace p138:=eq_true p138
        replace q138:=eq_true q138
        go_wp2_with (first | ((with_reducible refine gate_callee (f:=17) rfl ?_);refine Up.gl (some 20) Tryd.func17 #[.agg #[.string ((rd_T44 l0 x4_1).f0),.slice A138_1 ((rd_T44 l0 x4_1).f1).length c138_1]] ?_;(with_reducible refine (laws_toMark.calls k1 ((rd_T44 l0 x4_1).f0) _ _ ((rd_T44 l0 x4_1).f1) t139 t140 _ ?side1 ?side2 A8.out).mono ?_);(case side1 => exact Up.Cx HR138_1 HB);(case side2 => exact HC138_1.out);rintro e w11 ⟨v141,rfl,ho0,hb⟩;refine ⟨_,rfl,?_⟩;have n0_:=Aside0.mk (Kd.S_elder' (Up.Sup HO_3) (Kd.R_base ho0) hb);have n1_:=Aside0.mk (Kd.R_lower ho0 (below_size (Up.Bup HB)));have n2_:=Up.BB HB hb;clear HO_3 HB;have HO_3:=n0_;have HO142:=n1_;have HB:=n2_;clear n0_ n1_ n2_;(try clear hb);(try clear hb2);(try clear hk);(try clear hi);(try clear ho0);(have hsvv141_ : ∀ (a_ : Addr) (m_ : Mode) (W_ : World),(Go.store a_ v141 m_).run Tryd.prog W_ = stored Tryd.prog W_ a_ v141 m_:=fun a_ m_ W_ => run_store _ W_ a_ _ m_ (by first | (obtain ⟨_,_,e_⟩:=Kd.R_slice HO142.out;rw [e_];rfl) | (obtain ⟨_,_,e_⟩:=Kd.R_slice (Kd.S_R HO142.out);rw [e_];rfl)));(have hcvv141_ : (v141 : Value).cells = #[v141]:=(by first | (obtain ⟨_,_,e_⟩:=Kd.R_slice HO142.out;rw [e_];rfl) | (obtain ⟨_,_,e_⟩:=Kd.R_slice (Kd.S_R HO142.out);rw [e_];rfl)));have p10 : 0 ≤ (x4_1 : Int):=Up.od;have q10 : (x4_1 : Int) < ((x3_1.length : Int) : Int):=Up.od;obtain ⟨go10,co10,eo10,gb10,gl10,cl10,HG10⟩:=Kd.S_form HO_3.out (by omega);(first | cases eo10 | (injection eo10 with ea_ en_ ec_;(first | subst ea_ | (injection ea_ with ea_;subst ea_));subst ec_;clear en_));have GB10:=Aside0.mk gb10;have GG10:=Aside0.mk HG10;clear gb10 gl10 HG10;obtain ⟨_,ce10,hcl10,hM10,hcc10,hfr10,_,_⟩:=Kd.S_elem HO_3.out z39 (x4_1 : Int) p10 q10;obtain ⟨ve10_1,rfl,ge10_1⟩:=k39_openM hM10;have hx10_0 : w11.cell? ⟨go10,(x4_1 : Int).toNat * 2,none⟩ = some (.string ((rd_T39 x3_1 x4_1).f0)):=hcc10 0 _ rfl;have hx10_1 : w11.cell? ⟨go10,(x4_1 : Int).toNat * 2 + 1,none⟩ = some (ve10_1):=hcc10 1 _ rfl;have hf10_0 : w11.frozen? ⟨go10,(x4_1 : Int).toNat * 2,none⟩ = false:=hfr10 0;have hf10_1 : w11.frozen? ⟨go10,(x4_1 : Int).toNat * 2 + 1,none⟩ = false:=hfr10 1;clear hcl10 hcc10 hfr10 hM10;replace p10:=eq_true p10;replace q10:=eq_true q10;have n_:=Aside0.mk (Kd.S_mono (ok':=(fun k_ => some k_ ≠ (v141 : Value).ownBlock)) HO_3.out (fun k_ hk => hk.2));clear HO_3;have HO_3:=n_;clear n_;have HX12:=Aside0.mk (show Kd.S k39 39 w11 w.heap.size (fun k_ => ((fun _ => True)) k_ ∧ ¬ ((fun k_ => some k_ = (v141 : Value).ownBlock)) k_) (.slice (some ⟨go10,0,none⟩) x3_1.length co10) x3_1 from (Up.Sq (Kd.S_mono HO_3.out (fun k_ hk => ⟨trivial,fun e_ => hk e_⟩))));obtain ⟨oki12,ce12,hcl12,hM12,hcc12,hfr12,hoki12,hH12⟩:=Kd.S_elem HX12.out z39 (x4_1 : Int) (Up.od) (by have h_ : (x4_1 : Int) < ((x3_1.length : Int) : Int):=Up.od;first | exact h_ | (have e_:=(Kd.S_reads' HO_3.out).1;omega) | simpa using h_);obtain ⟨ve12_1,rfl,ge12_1⟩:=k39_openM hM12;have HP12:=Kd.S_seg hH12 (Up.od) (by have h_ : (x4_1 : Int) < ((x3_1.length : Int) : Int):=Up.od;first | exact h_ | (have e_:=(Kd.S_reads' HO_3.out).1;omega) | simpa using h_) (seg:=[.string t139,v141]) (j:=0) (show 2 ≤ 2 from by decide) (x':=(⟨t139,t140⟩ : S39)) (k39_mkM _ _ _ (⟨t139,t140⟩ : S39) (Kd.R_mono (Kd.R_tight rfl (Kd.R_mono (ok':=fun k_ => ((fun _ => True)) k_ ∧ k_ ≠ go10) (Kd.R_apart' (HO142.out) (Kd.S_typed HO_3.out) (by decide)) (fun k_ hk => ⟨trivial,fun e_ => (hk.2) (by rw [e_];rfl)⟩))) (fun _ h_ => Or.inr (h_)))) (fun _ hk => hk) (fun k_ hk_ => ((Kd.R_mono (ok':=fun k_ => ((fun _ => True)) k_ ∧ k_ ≠ go10) (Kd.R_apart' (HO142.out) (Kd.S_typed HO_3.out) (by decide)) (fun k_ hk => ⟨trivial,fun e_ => (hk.2) (by rw [e_];rfl)⟩))).1 k_ hk_.symm);have hx12_0:=hcc12 0 _ rfl;(try simp only [show (k39).sz = 2 from rfl,Nat.mul_one,Nat.add_zero] at hx12_0);have hf12_0:=hfr12 0;(try simp only [show (k39).sz = 2 from rfl,Nat.mul_one,Nat.add_zero] at hf12_0);have hx12_1:=hcc12 1 _ rfl;(try simp only [show (k39).sz = 2 from rfl,Nat.mul_one,Nat.add_zero] at hx12_1);have hf12_1:=hfr12 1;(try simp only [show (k39).sz = 2 from rfl,Nat.mul_one,Nat.add_zero] at hf12_1);clear hcl12 hcc12 hfr12 hM12 hoki12 hH12) | ((with_reducible refine gate_store (t:=39) (p:=21) rfl ?_);refine store_event (t:=39) (p:=21) (v:=?vo_w13) (w1:=((w11.setCell ⟨go10,(x4_1 : Int).toNat * 2,none⟩ (.string t139)).setCell ⟨go10,(x4_1 : Int).toNat * 2 + 1,none⟩ (v141))) ?hg ?ho ?hn ?hr ?_;(case ho => rfl);(case hg => rfl);(case hn => rfl);(case hr => first | (go_simp;done) | (go_simp;rfl));intro w13 hw;have hg : w11.grownBy w13 (some go10):=(by rw [hw];exact HP12.2);have hp_ : Kd.S k39 39 w13 w.heap.size (fun _ => True) (.slice (some ⟨go10,0,none⟩) x3_1.length co10) y143:=(by rw [hw,Ny143.out];exact HP12.1);clear HP12;have n0_:=Aside0.mk (hp_);have n1_:=Aside0.mk ((by rw [hw];exact below_set (below_set (HB.out) GB10.out) GB10.out : Below w.heap.size w w13));clear HO_3 HB HO142;have HO_3:=n0_;have HB:=n1_;clear n0_ n1_ hg hw hp_))
        go_roundg k1
        case measure => have:=HK1.out;omega
        case rel => exact ⟨(y143),(wrap64 (x4_1 + 1)),(by first | rfl | (simp;done) | (simp [*];done)),H',⟨by have:=HK1.out;omega⟩,⟨Up.Sup HO_3⟩,⟨Up.Bup HB⟩⟩
       ·rw [if_neg c9] at H
        exact absurd H (by simp)
      ·rw [if_neg c7] at H
       exact absurd H (by simp)
     ·rw [if_neg c6] at H
      have c6b0 : decide (x4_1 < (l0.length : Int)) = false:=decide_eq_false c6
      clear c6
      obtain rfl:=Option.some.inj H
      go_wp2
      go_ret
      exact ⟨_,by first | rfl | (simp [errW_none,errW_some] <;> rfl) | (simp [*,errW_none,errW_some] <;> rfl),Up.Sup HO_3,Up.Bup HB⟩
  ·rw [if_neg c3] at H
   exact absurd H (by simp)
 ·rw [if_neg c2] at H
  exact absurd H (by simp)

/-! ### laws_toShape: function 6 -/
def laws_toShape.f (k : Nat) (l0_0 : List (S44)) (l0_1 : List (S44)) : Option ((List (S39)) × (List (S39))):=(laws_toMarkS.f k l0_0).bind fun t147 => ((laws_toMarkS.f k l0_1).bind fun t150 => (some (t147,t150)))
theorem laws_toShape.mono : ∀ a0 a1 k,LeO (laws_toShape.f k a0 a1) (laws_toShape.f (k + 1) a0 a1):=by
 intro a0 a1 k
 unfold laws_toShape.f
 repeat' first
   | (with_reducible exact laws_toMarkS.mono _ _)
   | (with_reducible exact LeO.refl _)
   | (with_reducible exact LeO.none _)
   | (with_reducible refine LeO.ite ?_ ?_)
   | (with_reducible refine LeO.bind ?_ (fun _ => ?_))
   | exact laws_toMarkS.mono _ _
   | exact LeO.none _
   | refine LeO.ite ?_ ?_
   | refine LeO.bind ?_ (fun _ => ?_)
set_option maxHeartbeats 8000000 in
set_option maxRecDepth 100000 in
theorem laws_toShape.calls (k : Nat) (A0_0 : Option Addr) (c0_0 : Nat) (l0_0 : List (S44)) (A0_1 : Option Addr) (c0_1 : Nat) (l0_1 : List (S44)) (r1 : List (S39)) (r2 : List (S39)) (w : World) (hr0_0 : Kd.C k44 w A0_0 l0_0.length l0_0) (hc0_0 : l0_0.length ≤ c0_0) (hr0_1 : Kd.C k44 w A0_1 l0_1.length l0_1) (hc0_1 : l0_1.length ≤ c0_1) (h : laws_toShape.f k l0_0 l0_1 = some (r1,r2)) :
  Calls Tryd.prog 6 #[.agg #[.slice A0_0 l0_0.length c0_0,.slice A0_1 l0_1.length c0_1]] w fun e w' => ∃ v0_ v1_ : Value,e = .returned (.agg #[v0_,v1_]) ∧ Kd.S k39 39 w' w.heap.size (fun k_ => some k_ ≠ (v1_ : Value).ownBlock) v0_ r1 ∧ Kd.S k39 39 w' w.heap.size (fun k_ => some k_ ≠ (v0_ : Value).ownBlock) v1_ r2 ∧ Below w.heap.size w w':=by
 have hu24:=Tryd.underlying24
 have hu29:=Tryd.underlying29
 have HR0_0:=Aside0.mk hr0_0
 have HC0_0:=Aside0.mk hc0_0
 clear hr0_0 hc0_0
 have HR0_1:=Aside0.mk hr0_1
 have HC0_1:=Aside0.mk hc0_1
 clear hr0_1 hc0_1
 have HB:=Aside0.mk (Below.refl w.heap.size w)
 have H : ((laws_toMarkS.f k l0_0).bind fun t147 => ((laws_toMarkS.f k l0_1).bind fun t150 => (some (t147,t150)))) = some (r1,r2):=h
 clear h
 replace H:=Option.bind_eq_some_iff.mp H
 obtain ⟨t147,A20,H⟩:=H
 replace H : ((laws_toMarkS.f k l0_1).bind fun t150 => (some (t147,t150))) = some (r1,r2):=H
 have A2:=Aside0.mk A20
 clear A20
 replace H:=Option.bind_eq_some_iff.mp H
 obtain ⟨t150,A30,H⟩:=H
 replace H : (some (t147,t150)) = some (r1,r2):=H
 have A3:=Aside0.mk A30
 clear A30
 simp only [Option.some.injEq,Prod.mk.injEq] at H
 obtain ⟨rfl,rfl⟩:=H
 go_enter Tryd.func6,Tryd.ntmps6
 go_wp2_with (first | ((with_reducible refine gate_dst (N:=1) rfl ?_);refine Up.bx 1 24 #[.slice A0_0 l0_0.length c0_0,.slice A0_1 l0_1.length c0_1] ?_;intro gb144 hg w4 hbox hb;have n0_:=Up.BB HB hb;have n1_:=Aside0.mk (hbox);have n2_:=Up.gw hg HB;have n3_:=Up.gw hg HB;clear HB;have HB:=n0_;have BK144:=n1_;have GW144:=n2_;have GE144:=n3_;clear n0_ n1_ n2_ n3_ hb hbox hg) | ((with_reducible refine gate_dst (N:=2) rfl ?_);refine Up.bx 2 29 #[.slice none 0 0,.slice none 0 0] ?_;intro gb145 hg w5 hbox hb;have n0_:=Up.KB BK144 hb;have n1_:=Aside0.mk (below_step (Up.Bx HB) hb);have n2_:=Aside0.mk (hbox);have n3_:=Up.gw hg HB;have n4_:=Up.gw hg HB;have n5_:=Up.nl hg BK144;have n6_:=Up.ng hg BK144;clear BK144 HB;have BK144:=n0_;have HB:=n1_;have BK145:=n2_;have GW145:=n3_;have GE145:=n4_;have NB144_145:=n5_;have NB145_144:=n6_;clear n0_ n1_ n2_ n3_ n4_ n5_ n6_ hb hbox hg) | ((with_reducible refine gate_dst (N:=3) rfl ?_);refine Up.bx 3 29 #[.slice none 0 0,.slice none 0 0] ?_;intro gb146 hg w6 hbox hb;have n0_:=Up.KB BK144 hb;have n1_:=Up.KB BK145 hb;have n2_:=Aside0.mk (below_step (Up.Bx HB) hb);have n3_:=Aside0.mk (hbox);have n4_:=Up.gw hg HB;have n5_:=Up.gw hg HB;have n6_:=Up.nl hg BK144;have n7_:=Up.ng hg BK144;have n8_:=Up.nl hg BK145;have n9_:=Up.ng hg BK145;clear BK144 BK145 HB;have BK144:=n0_;have BK145:=n1_;have HB:=n2_;have BK146:=n3_;have GW146:=n4_;have GE146:=n5_;have NB144_146:=n6_;have NB146_144:=n7_;have NB145_146:=n8_;have NB146_145:=n9_;clear n0_ n1_ n2_ n3_ n4_ n5_ n6_ n7_ n8_ n9_ hb hbox hg;have hnb7:=NB144_145.out;have hnc7:=NB145_144.out;have hnb8:=NB144_146.out;have hnc8:=NB146_144.out;have hcz9_0:=Up.c0 BK144;have hcz9_1:=Up.c1 BK144;have hfz9_0:=blk_frozen BK144.out 0;have hfz9_1:=blk_frozen BK144.out 1) | ((with_reducible refine gate_callee (f:=11) rfl ?_);refine Up.gl (some 6) Tryd.func11 #[.slice A0_0 l0_0.length c0_0] ?_;(with_reducible refine (laws_toMarkS.calls k _ _ l0_0 t147 _ ?side1 ?side2 A2.out).mono ?_);(case side1 => exact Up.Cx HR0_0 HB);(case side2 => exact HC0_0.out);rintro e w10 ⟨v148,rfl,ho0,hb⟩;refine ⟨_,rfl,?_⟩;have n0_:=Aside0.mk (Kd.S_lower ho0 (below_size (Up.Bx HB)));have n1_:=Up.KB BK144 hb;have n2_:=Up.KB BK145 hb;have n3_:=Up.KB BK146 hb;have n4_:=Aside0.mk (below_step (Up.Bx HB) hb);clear BK144 BK145 BK146 HB;have HO149:=n0_;have BK144:=n1_;have BK145:=n2_;have BK146:=n3_;have HB:=n4_;clear n0_ n1_ n2_ n3_ n4_;(try clear hb);(try clear hb2);(try clear hk);(try clear hi);(try clear ho0);obtain ⟨Ao11,co11,eo11⟩:=Kd.S_slice HO149.out;subst eo11;have hnb12:=NB146_145.out;have hnc12:=NB145_146.out;have hcz13_0:=Up.c0 BK146;have hcz13_1:=Up.c1 BK146;have hfz13_0:=blk_frozen BK146.out 0;have hfz13_1:=blk_frozen BK146.out 1;have hcz14_0:=Up.c0 BK144;have hcz14_1:=Up.c1 BK144;have hfz14_0:=blk_frozen BK144.out 0;have hfz14_1:=blk_frozen BK144.out 1) | ((with_reducible refine gate_callee (f:=11) rfl ?_);refine Up.gl (some 10) Tryd.func11 #[.slice A0_1 l0_1.length c0_1] ?_;(with_reducible refine (laws_toMarkS.calls k _ _ l0_1 t150 _ ?side1 ?side2 A3.out).mono ?_);(case side1 => exact Kd.C_below HR0_1.out (Up.Bx HB));(case side2 => exact HC0_1.out);rintro e w15 ⟨v151,rfl,ho0,hb⟩;refine ⟨_,rfl,?_⟩;have n0_:=Aside0.mk (Kd.S_elder' (by (with_reducible repeat (first | apply Kd.S_alloc | apply Kd.S_drewN | apply Kd.S_drew));exact (Kd.S_mono (Kd.S_far (p:=⟨gb146,0,none⟩) (Kd.S_types HO149.out BK146.out (by decide)) (fun _ hk => hk.2) (.slice Ao11 t147.length co11)) (fun _ h_ => h_.1))) (Kd.S_base ho0) hb);have n1_:=Aside0.mk (Kd.S_lower (Kd.S_new' ho0 (Kd.S_lt (by (with_reducible repeat (first | apply Kd.S_alloc | apply Kd.S_drewN | apply Kd.S_drew));exact (Kd.S_mono (Kd.S_far (p:=⟨gb146,0,none⟩) (Kd.S_types HO149.out BK146.out (by decide)) (fun _ hk => hk.2) (.slice Ao11 t147.length co11)) (fun _ h_ => h_.1))))) (below_size (Up.Bx HB)));have n2_:=Aside0.mk (blk_below (g:=gb144) (o:=.cells #[.slice A0_0 l0_0.length c0_0,.slice A0_1 l0_1.length c0_1] 24 (0,0)) (Up.Kx BK144) hb);have n3_:=Aside0.mk (blk_below (g:=gb145) (o:=.cells #[.slice none 0 0,.slice none 0 0] 29 (0,0)) (Up.Kx BK145) hb);have n4_:=Aside0.mk (blk_below (g:=gb146) (o:=.cells #[.slice Ao11 t147.length co11,.slice none 0 0] 29 (0,0)) (Up.Kx BK146) hb);have n5_:=Aside0.mk (below_step (Up.Bx HB) hb);clear HO149 BK144 BK145 BK146 HB;have HO149:=n0_;have HO152:=n1_;have BK144:=n2_;have BK145:=n3_;have BK146:=n4_;have HB:=n5_;clear n0_ n1_ n2_ n3_ n4_ n5_;(try clear hb);(try clear hb2);(try clear hk);(try clear hi);(try clear ho0);obtain ⟨Ao16,co16,eo16⟩:=Kd.S_slice HO152.out;subst eo16;have hcz17_0:=Up.c0 BK146;have hcz17_1:=Up.c1 BK146;have hfz17_0:=blk_frozen BK146.out 0;have hfz17_1:=blk_frozen BK146.out 1;have hcz18_0:=Up.c0 BK145;have hcz18_1:=Up.c1 BK145;have hfz18_0:=blk_frozen BK145.out 0;have hfz18_1:=blk_frozen BK145.out 1))
 refine bodyPost_ret (results_cell_row rfl _ _ gb145 29 #[.slice Ao11 t147.length co11,.slice Ao16 t150.length co16] (0,0) _ rfl (Up.Kx BK145) Tryd.underlying29 rfl (by kernel_rfl)) rfl ?_
 exact ⟨_,_,by first | rfl | (simp [errW_none,errW_some] <;> rfl) | (simp [*,errW_none,errW_some] <;> rfl),by (with_reducible repeat (first | apply Kd.S_alloc | apply Kd.S_drewN | apply Kd.S_drew));exact Kd.S_mono (Kd.S_far (p:=⟨gb145,1,none⟩) (Kd.S_far (p:=⟨gb145,0,none⟩) (Kd.S_far (p:=⟨gb146,1,none⟩) (Kd.S_types (Kd.S_types HO149.out BK146.out (by decide)) BK145.out (by decide)) (fun _ hk => hk.1.2) (.slice Ao16 t150.length co16)) (fun _ hk => hk.2) (.slice Ao11 t147.length co11)) (fun _ hk => hk.2) (.slice Ao16 t150.length co16)) (fun _ hk => hk.1.1.2),by (with_reducible repeat (first | apply Kd.S_alloc | apply Kd.S_drewN | apply Kd.S_drew));exact Kd.S_mono (Kd.S_far (p:=⟨gb145,1,none⟩) (Kd.S_far (p:=⟨gb145,0,none⟩) (Kd.S_far (p:=⟨gb146,1,none⟩) (Kd.S_types (Kd.S_types HO152.out BK146.out (by decide)) BK145.out (by decide)) (fun _ hk => hk.1.2) (.slice Ao16 t150.length co16)) (fun _ hk => hk.2) (.slice Ao11 t147.length co11)) (fun _ hk => hk.2) (.slice Ao16 t150.length co16)) (fun _ hk => hk.1.1.2),Up.Bx HB⟩

/-! ### strconv_Itoa: function 18 -/
theorem tabIs_below {P : Program} {w W : World} {name : String} {k : IntKind} {zs : List Int} (h : Lib.TabIs P w name k zs) (hb : Below w.heap.size w W) : Lib.TabIs P W name k zs := by
  unfold Lib.TabIs World.var? at h ⊢
  cases hg : P.globalNamed name with
  | none => rw [hg] at h; cases h
  | some g =>
    rw [hg] at h
    simp only [Option.bind_some] at h ⊢
    have hlt : g < w.heap.size := by
      rcases Nat.lt_or_ge g w.heap.size with h' | h'
      · exact h'
      · rw [Array.getElem?_eq_none h'] at h; cases h
    rw [hb.block g hlt]
    exact h
/-- What stands in the world ahead of the call, and is asked by what it comes to in the library. -/
structure Tab (w : World) : Prop where
  f2 : Lib.TabIs Tryd.prog w "internal/strconv.uint64pow10" .u64 Lib.pow10Tab
theorem Tab.below {w W : World} (h : Tab w) (hb : Below w.heap.size w W) : Tab W := ⟨tabIs_below h.f2 hb⟩

def strconv_Itoa.f (n : Int) : Option ByteArray := if -9223372036854775808 ≤ n ∧ n ≤ 9223372036854775807 then some ⟨(Lib.itoa n).toArray⟩ else none
theorem below_grown_ (w : World) (k : Nat) (os : Array Obj) : Below w.heap.size w (Sort.grow (w.drewN k) os) :=
  ⟨rfl, rfl, rfl, by simp [Sort.grow, World.drewN], fun i hi => by simp [Sort.grow, World.drewN, Array.getElem?_append_left hi]⟩
theorem strconv_Itoa.calls (a0 : Int) (r : ByteArray) (w : World) (hT_ : Tab w) (h : strconv_Itoa.f a0 = some r) :
    Calls Tryd.prog 18 #[.int .i64 a0] w fun e w' => e = .returned (.string r) ∧ Below w.heap.size w w' := by
  unfold strconv_Itoa.f at h
  split at h
  · rename_i hc
    obtain rfl := Option.some.inj h
    refine (Tryd.strconv_Itoa a0 hc.1 hc.2 w hT_.f2).mono ?_
    rintro e w' ⟨rfl, k, os, rfl⟩
    exact ⟨rfl, below_grown_ _ k os⟩
  · cases h

end Go.Proofs.YtpfpfnjmhdgglaaDoor.OFnExactShapeText
