-- Laid by a program of this session (wip/myprint.py): the kit's print of the functions, contracts of our own among them.
import Derived.Test.YtpfpfnjmhdgglaaDoorOFnExactShapeTextx0
import Derived.Test.YtpfpfnjmhdgglaaDoorOFnExactShapeTextx2
namespace Go.Proofs.YtpfpfnjmhdgglaaDoor.OFnExactShapeText
open Go.RowKit Go.Proofs.YtpfpfnjmhdgglaaDoorW.PrintWords Go.Proofs.YtpfpfnjmhdgglaaDoorW.PrintLast Go.Proofs.YtpfpfnjmhdgglaaDoorW.PrintMore
attribute [local go_sem] max2_int min2_int max_two min_two max_three min_three max_four min_four   -- for this text's walks alone
set_option linter.unusedVariables false
set_option linter.unusedSimpArgs false

/-! ### impl_Mark_text: function 12 -/
theorem isEm_ (l : List UInt8) : l.isEmpty = (l == ([] : List UInt8)):=by cases l <;> rfl
mutual
def impl_Mark_text.j0 : Nat → ByteArray → ByteArray → List Int → Option (ByteArray)
 | 0,_,_,_ => none
 | k + 1,x3,x154000,x154001 => impl_Mark_text.l0 k x3 x154001 (x154001.length : Int) 0
def impl_Mark_text.l0 : Nat → ByteArray → List Int → Int → Int → Option (ByteArray)
 | 0,_,_,_,_ => none
 | k + 1,x3,x11,x12,x13 => if x13 < x12 then (if 0 ≤ x13 then (if x13 < (x11.length : Int) then ((strconv_Itoa.f (rd x11 x13)).bind fun t155 => (if 1 + t155.size ≤ 9223372036854775807 then (if x3.size + ((⟨#[46]⟩ : ByteArray) ++ t155).size ≤ 9223372036854775807 then (impl_Mark_text.l0 k (x3 ++ ((⟨#[46]⟩ : ByteArray) ++ t155)) x11 x12 (wrap64 (x13 + 1))) else (none)) else (none))) else (none)) else (none)) else (some x3)
end
def impl_Mark_text.f (k : Nat) (a0_0 : ByteArray) (l0_1 : List Int) : Option (ByteArray):=if a0_0.toList = ([] : List UInt8) then (impl_Mark_text.j0 k (⟨#[45]⟩ : ByteArray) a0_0 l0_1) else (impl_Mark_text.j0 k a0_0 a0_0 l0_1)
theorem impl_Mark_text.mono_l : ∀ k,(∀ y0 y1 y2,LeO (impl_Mark_text.j0 k y0 y1 y2) (impl_Mark_text.j0 (k + 1) y0 y1 y2)) ∧ (∀ y0 y1 y2 y3,LeO (impl_Mark_text.l0 k y0 y1 y2 y3) (impl_Mark_text.l0 (k + 1) y0 y1 y2 y3))
 | 0 => ⟨fun _ _ _ r h => by simp [impl_Mark_text.j0] at h,fun _ _ _ _ r h => by simp [impl_Mark_text.l0] at h⟩
 | k + 1 => by
  obtain ⟨ih0,ih1⟩:=impl_Mark_text.mono_l k
  refine ⟨?_,?_⟩
  ·intro y0 y1 y2
   unfold impl_Mark_text.j0
   repeat' first
   | (with_reducible exact ih0 _ _ _)
   | (with_reducible exact ih1 _ _ _ _)
   | (with_reducible exact LeO.refl _)
   | (with_reducible exact LeO.none _)
   | (with_reducible refine LeO.ite ?_ ?_)
   | (with_reducible refine LeO.bind ?_ (fun _ => ?_))
   | exact ih0 _ _ _
   | exact ih1 _ _ _ _
   | exact LeO.none _
   | refine LeO.ite ?_ ?_
   | refine LeO.bind ?_ (fun _ => ?_)
  ·intro y0 y1 y2 y3
   unfold impl_Mark_text.l0
   repeat' first
   | (with_reducible exact ih0 _ _ _)
   | (with_reducible exact ih1 _ _ _ _)
   | (with_reducible exact LeO.refl _)
   | (with_reducible exact LeO.none _)
   | (with_reducible refine LeO.ite ?_ ?_)
   | (with_reducible refine LeO.bind ?_ (fun _ => ?_))
   | exact ih0 _ _ _
   | exact ih1 _ _ _ _
   | exact LeO.none _
   | refine LeO.ite ?_ ?_
   | refine LeO.bind ?_ (fun _ => ?_)
theorem impl_Mark_text.mono : ∀ a0 a1 k,LeO (impl_Mark_text.f k a0 a1) (impl_Mark_text.f (k + 1) a0 a1):=by
 intro a0 a1 k
 obtain ⟨ih0,ih1⟩:=impl_Mark_text.mono_l k
 unfold impl_Mark_text.f
 repeat' first
   | (with_reducible exact ih0 _ _ _)
   | (with_reducible exact ih1 _ _ _ _)
   | (with_reducible exact LeO.refl _)
   | (with_reducible exact LeO.none _)
   | (with_reducible refine LeO.ite ?_ ?_)
   | (with_reducible refine LeO.bind ?_ (fun _ => ?_))
   | exact ih0 _ _ _
   | exact ih1 _ _ _ _
   | exact LeO.none _
   | refine LeO.ite ?_ ?_
   | refine LeO.bind ?_ (fun _ => ?_)
set_option maxHeartbeats 8000000 in
set_option maxRecDepth 100000 in
theorem impl_Mark_text.calls (k : Nat) (a0_0 : ByteArray) (A0_1 : Option Addr) (c0_1 : Nat) (l0_1 : List Int) (r : ByteArray) (w : World) (hT_ : Tab w) (hr0_1 : Kd.C (Kd.int .i64) w A0_1 l0_1.length l0_1) (hc0_1 : l0_1.length ≤ c0_1) (h : impl_Mark_text.f k a0_0 l0_1 = some r) :
  Calls Tryd.prog 12 #[.agg #[.string a0_0,.slice A0_1 l0_1.length c0_1]] w fun e w' => e = .returned (.string r) ∧ Below w.heap.size w w':=by
 have hu39:=Tryd.underlying39
 have HR0_1:=Aside0.mk hr0_1
 have HC0_1:=Aside0.mk hc0_1
 clear hr0_1 hc0_1
 have HB:=Aside0.mk (Below.refl w.heap.size w)
 have H : (if a0_0.toList = ([] : List UInt8) then (impl_Mark_text.j0 k (⟨#[45]⟩ : ByteArray) a0_0 l0_1) else (impl_Mark_text.j0 k a0_0 a0_0 l0_1)) = some r:=h
 clear h
 have HC2:=Aside0.mk H
 clear H
 go_enter Tryd.func12,Tryd.ntmps12
 go_upto_if 9 with (first | ((with_reducible refine gate_dst (N:=1) rfl ?_);refine Up.bx 1 39 #[.string a0_0,.slice A0_1 l0_1.length c0_1] ?_;intro gb153 hg w3 hbox hb;have n0_:=Up.BB HB hb;have n1_:=Aside0.mk (hbox);have n2_:=Up.gw hg HB;have n3_:=Up.gw hg HB;clear HB;have HB:=n0_;have BK153:=n1_;have GW153:=n2_;have GE153:=n3_;clear n0_ n1_ n2_ n3_ hb hbox hg;have hcz4_0:=Up.c0 BK153;have hcz4_1:=Up.c1 BK153;have hfz4_0:=blk_frozen BK153.out 0;have hfz4_1:=blk_frozen BK153.out 1))
 (try simp only [Act.put,List.setIfInBounds_toArray,List.set_cons_zero,List.set_cons_succ])
 go_cut [3] (fun v3 wc => ∃ (kq : Nat) (x3_1 : ByteArray),v3 = .string x3_1 ∧ Aside0 (impl_Mark_text.j0 kq x3_1 a0_0 l0_1 = some r) ∧ Aside0 (kq ≤ k) ∧ Aside0 (wc.heap[gb153]? = some (.cells #[.string a0_0,(.slice A0_1 l0_1.length c0_1)] 39 (0,0))) ∧ Aside0 (Below w.heap.size w wc))
 case first =>
  have H:=HC2.out
  clear HC2
  by_cases c5 : a0_0.toList = ([] : List UInt8)
  ·rw [if_pos c5] at H
   have c5b0 : (a0_0.toList == ([] : List UInt8)) = true:=beq_iff_eq.mpr c5
   have c5b9 : (a0_0).toList.isEmpty = true:=(isEm_ _).trans c5b0
   have c5b1 : (a0_0.toList != ([] : List UInt8)) = false:=bne_eq_false_iff_eq.mpr c5
   clear c5
   (first | rw [c5b0] | (rw [isEm_];rw [c5b0]) | (simp only [i64_w,i32_w];rw [c5b0]) | skip)
   have H':=Aside0.mk H
   clear H
   go_wp2
   go_meet
   case rel => exact ⟨_,((⟨#[45]⟩ : ByteArray)),(by first | rfl | (simp;done) | (simp [*];done)),H',⟨by first | omega | exact Nat.le_refl _⟩,⟨by (with_reducible repeat (first | refine blk_drewN ?_ _ | refine blk_drew ?_ | refine blk_alloc ?_ _));exact BK153.out⟩,⟨Up.Bx HB⟩⟩
  ·rw [if_neg c5] at H
   have c5b0 : (a0_0.toList == ([] : List UInt8)) = false:=beq_eq_false_iff_ne.mpr c5
   have c5b9 : (a0_0).toList.isEmpty = false:=(isEm_ _).trans c5b0
   have c5b1 : (a0_0.toList != ([] : List UInt8)) = true:=bne_iff_ne.mpr c5
   (first | rw [c5b0] | (rw [isEm_];rw [c5b0]) | (simp only [i64_w,i32_w];rw [c5b0]) | skip)
   have H':=Aside0.mk H
   clear H
   go_wp2
   go_meet
   case rel => exact ⟨_,(a0_0),(by first | rfl | (simp;done) | (simp [*];done)),H',⟨by first | omega | exact Nat.le_refl _⟩,⟨by (with_reducible repeat (first | refine blk_drewN ?_ _ | refine blk_drew ?_ | refine blk_alloc ?_ _));exact BK153.out⟩,⟨Up.Bx HB⟩⟩
 case rest =>
  clear HC2
  try clear c1
  try clear p2
  try clear c5
  try clear c5b0
  try clear c5b1
  try clear hcz4_0
  try clear hcz4_1
  try clear hfz4_0
  try clear hfz4_1
  obtain ⟨kq,x3_1,rfl,HA,HJ1,BK153,HB⟩:=hcut
  cases kq with
  | zero => exact absurd HA.out (by simp [impl_Mark_text.j0])
  | succ kj1 =>
   have H:=HA.out
   clear HA
   simp only [impl_Mark_text.j0] at H
   have H':=Aside0.mk H
   clear H
   have hcz6_0:=Up.c0 BK153
   have hcz6_1:=Up.c1 BK153
   have hfz6_0:=blk_frozen BK153.out 0
   have hfz6_1:=blk_frozen BK153.out 1
   go_wp2
   go_loopg [3,13] kj1 (fun kq v3 v13 w' => ∃ (x3_2 : ByteArray) (x13_2 : Int),v3 = .string x3_2 ∧ v13 = .int .i64 x13_2 ∧ Aside0 (impl_Mark_text.l0 kq x3_2 l0_1 (l0_1.length : Int) x13_2 = some r) ∧ Aside0 (kq ≤ kj1) ∧ Aside0 (w'.heap[gb153]? = some (.cells #[.string a0_0,(.slice A0_1 l0_1.length c0_1)] 39 (0,0))) ∧ Aside0 (Below w.heap.size w w'))
   case atStart => exact ⟨(x3_1),(0),(by first | rfl | (simp;done) | (simp [*];done)),(by first | rfl | (simp;done) | (simp [*];done)),H',⟨Nat.le_refl _⟩,⟨by (with_reducible repeat (first | refine blk_drewN ?_ _ | refine blk_drew ?_ | refine blk_alloc ?_ _));exact BK153.out⟩,⟨Up.Bx HB⟩⟩
   case round =>
    clear H'
    try clear c1
    try clear p2
    try clear c5
    try clear c5b0
    try clear c5b1
    try clear hcz4_0
    try clear hcz4_1
    try clear hcz6_0
    try clear hcz6_1
    try clear hfz4_0
    try clear hfz4_1
    try clear hfz6_0
    try clear hfz6_1
    try clear p2
    obtain ⟨x3_2,x13_2,rfl,rfl,HA,HK2,BK153,HB⟩:=hrel
    cases gk with
    | zero => exact absurd HA.out (by simp [impl_Mark_text.l0])
    | succ k2 =>
     have H:=HA.out
     clear HA
     simp only [impl_Mark_text.l0] at H
     by_cases c7 : x13_2 < (l0_1.length : Int)
     ·rw [if_pos c7] at H
      have c7b0 : decide (x13_2 < (l0_1.length : Int)) = true:=decide_eq_true c7
      clear c7
      by_cases c8 : 0 ≤ x13_2
      ·rw [if_pos c8] at H
       have c8b0 : decide (0 ≤ x13_2) = true:=decide_eq_true c8
       clear c8
       by_cases c9 : x13_2 < (l0_1.length : Int)
       ·rw [if_pos c9] at H
        have c9b0 : decide (x13_2 < (l0_1.length : Int)) = true:=decide_eq_true c9
        clear c9
        replace H:=Option.bind_eq_some_iff.mp H
        obtain ⟨t155,A100,H⟩:=H
        replace H : (if 1 + t155.size ≤ 9223372036854775807 then (if x3_2.size + ((⟨#[46]⟩ : ByteArray) ++ t155).size ≤ 9223372036854775807 then (impl_Mark_text.l0 k2 (x3_2 ++ ((⟨#[46]⟩ : ByteArray) ++ t155)) l0_1 (l0_1.length : Int) (wrap64 (x13_2 + 1))) else (none)) else (none)) = some r:=H
        have A10:=Aside0.mk A100
        clear A100
        by_cases c11 : 1 + t155.size ≤ 9223372036854775807
        ·rw [if_pos c11] at H
         have c11b0:=eq_true c11
         have c11b1 : decide (1 + t155.size ≤ 9223372036854775807) = true:=decide_eq_true c11
         try have c11b2 : (9223372036854775807 < 1 + t155.size) = False:=eq_false (Nat.not_lt.2 c11)
         by_cases c12 : x3_2.size + ((⟨#[46]⟩ : ByteArray) ++ t155).size ≤ 9223372036854775807
         ·rw [if_pos c12] at H
          have c12b0:=eq_true c12
          have c12b1 : decide (x3_2.size + ((⟨#[46]⟩ : ByteArray) ++ t155).size ≤ 9223372036854775807) = true:=decide_eq_true c12
          try have c12b2 : (9223372036854775807 < x3_2.size + ((⟨#[46]⟩ : ByteArray) ++ t155).size) = False:=eq_false (Nat.not_lt.2 c12)
          have H':=Aside0.mk H
          clear H
          have p154 : 0 ≤ (x13_2 : Int):=Up.od
          have q154 : x13_2 < (l0_1.length : Int):=Up.od
          obtain ⟨ad154,e154,hx154_0⟩:=Kd.at_int HR0_1.out x13_2 p154 q154
          cases e154
          replace hx154_0:=Up.hc HB hx154_0
          replace p154:=eq_true p154
          replace q154:=eq_true q154
          go_wp2_with (first | ((with_reducible refine gate_callee (f:=18) rfl ?_);refine Up.gl (some 19) Tryd.func18 #[.int .i64 (rd l0_1 x13_2)] ?_;(with_reducible refine (strconv_Itoa.calls (hT_:=?tab1) (rd l0_1 x13_2) t155 _ A10.out).mono ?_);(case tab1 => exact hT_.below (Up.Bx HB));rintro e w13 ⟨rfl,hb⟩;refine ⟨_,rfl,?_⟩;have n0_:=Up.KB BK153 hb;have n1_:=Aside0.mk (below_step (Up.Bx HB) hb);clear BK153 HB;have BK153:=n0_;have HB:=n1_;clear n0_ n1_;(try clear hb);(try clear hb2);(try clear hk);(try clear hi)))
          go_roundg k2
          case measure => have:=HJ1.out;have:=HK2.out;omega
          case rel => exact ⟨(x3_2 ++ ((⟨#[46]⟩ : ByteArray) ++ t155)),(wrap64 (x13_2 + 1)),(by first | rfl | (simp;done) | (simp [*];done)),(by first | rfl | (simp;done) | (simp [*];done)),H',⟨by have:=HJ1.out;have:=HK2.out;omega⟩,⟨by (with_reducible repeat (first | refine blk_drewN ?_ _ | refine blk_drew ?_ | refine blk_alloc ?_ _));exact BK153.out⟩,⟨Up.Bx HB⟩⟩
         ·rw [if_neg c12] at H
          exact absurd H (by simp)
        ·rw [if_neg c11] at H
         exact absurd H (by simp)
       ·rw [if_neg c9] at H
        exact absurd H (by simp)
      ·rw [if_neg c8] at H
       exact absurd H (by simp)
     ·rw [if_neg c7] at H
      have c7b0 : decide (x13_2 < (l0_1.length : Int)) = false:=decide_eq_false c7
      clear c7
      obtain rfl:=Option.some.inj H
      go_wp2
      go_ret
      exact Up.e1 (Up.Bx HB)

/-! ### strings_Join: function 13 -/
def strings_Join.f (l0 : List ByteArray) (a1 : ByteArray) : Option ByteArray := if l0.length ≤ 140737488355328 ∧ (Lib.join (l0.map (·.data.toList)) a1.data.toList).length ≤ 140737488355328 then some ⟨(Lib.join (l0.map (·.data.toList)) a1.data.toList).toArray⟩ else none
theorem strings_Join.calls (A0 : Option Addr) (c0 : Nat) (l0 : List ByteArray) (a1 : ByteArray) (r : ByteArray) (w : World) (hr0 : Kd.C Kd.string w A0 l0.length l0) (hc0 : l0.length ≤ c0) (h : strings_Join.f l0 a1 = some r) :
    Calls Tryd.prog 13 #[.slice A0 l0.length c0, .string a1] w fun e w' => e = .returned (.string r) ∧ Below w.heap.size w w' := by
  unfold strings_Join.f at h
  split at h
  · rename_i hc
    obtain rfl := Option.some.inj h
    cases l0 with
    | nil => exact (Tryd.strings_Join_none A0 c0 a1 w).mono fun e w' ⟨he, hw⟩ => ⟨he, hw ▸ Below.refl _ _⟩
    | cons x xs =>
      obtain ⟨ad, rfl, hx⟩ := Kd.at_string hr0 0 (Int.le_refl _) (by simp)
      obtain ⟨b, o, sp⟩ := ad
      cases sp with
      | some s =>
        exfalso
        simp [Addr.add, World.cell?] at hx
        split at hx <;> cases hx
      | none =>
        have hcell : ∀ (j : Nat) y, (x :: xs)[j]? = some y → w.cell? ⟨b, o + j, none⟩ = some (.string y) := by
          intro j y hy
          have hj : j < (x :: xs).length := by
            rcases Nat.lt_or_ge j (x :: xs).length with h' | h'
            · exact h'
            · rw [List.getElem?_eq_none h'] at hy; cases hy
          obtain ⟨ad2, he2, hx2⟩ := Kd.at_string hr0 (j : Int) (by omega) (by omega)
          obtain rfl := Option.some.inj he2
          have hv : rdOf ByteArray.empty (x :: xs) (j : Int) = y := by simp [rdOf, hy]
          rw [hv] at hx2
          have hp : (⟨b, o, none⟩ : Addr).add j = ⟨b, o + j, none⟩ := by unfold Addr.add; split <;> simp_all
          rw [Int.toNat_natCast, hp] at hx2
          exact hx2
        refine Tryd.strings_Join b o c0 (x :: xs) a1 w hcell ?_ hc.1 hc0 hc.2
        have := World.block_lt_of_cell? w _ (hcell 0 x rfl)
        exact this
  · cases h

/-! ### impl_ShapeText: function 7 -/
mutual
def impl_ShapeText.l0 : Nat → List ByteArray → List (S39) → Int → Int → List (S39) → List (S39) → Option (ByteArray)
 | 0,_,_,_,_,_,_ => none
 | k + 1,x3,x10,x11,x12,x157000,x157001 => if x12 < x11 then (if 0 ≤ x12 then (if x12 < (x10.length : Int) then ((impl_Mark_text.f k ((rd_T39 x10 x12).f0) ((rd_T39 x10 x12).f1)).bind fun t162 => (if x3.length < 8796093022208 then (impl_ShapeText.l0 k (x3 ++ [t162]) x10 x11 (wrap64 (x12 + 1)) x157000 x157001) else (none))) else (none)) else (none)) else (if x3.length < 8796093022208 then (impl_ShapeText.l1 k (x3 ++ [(⟨#[124]⟩ : ByteArray)]) x157001 (x157001.length : Int) 0) else (none))
def impl_ShapeText.l1 : Nat → List ByteArray → List (S39) → Int → Int → Option (ByteArray)
 | 0,_,_,_,_ => none
 | k + 1,x3,x26,x27,x28 => if x28 < x27 then (if 0 ≤ x28 then (if x28 < (x26.length : Int) then ((impl_Mark_text.f k ((rd_T39 x26 x28).f0) ((rd_T39 x26 x28).f1)).bind fun t171 => (if x3.length < 8796093022208 then (impl_ShapeText.l1 k (x3 ++ [t171]) x26 x27 (wrap64 (x28 + 1))) else (none))) else (none)) else (none)) else ((strings_Join.f x3 (⟨#[32]⟩ : ByteArray)).bind fun t175 => (some t175))
end
def impl_ShapeText.f (k : Nat) (l0_0 : List (S39)) (l0_1 : List (S39)) : Option (ByteArray):=impl_ShapeText.l0 k (([] : List ByteArray)) l0_0 (l0_0.length : Int) 0 l0_0 l0_1
theorem impl_ShapeText.mono_l : ∀ k,(∀ y0 y1 y2 y3 y4 y5,LeO (impl_ShapeText.l0 k y0 y1 y2 y3 y4 y5) (impl_ShapeText.l0 (k + 1) y0 y1 y2 y3 y4 y5)) ∧ (∀ y0 y1 y2 y3,LeO (impl_ShapeText.l1 k y0 y1 y2 y3) (impl_ShapeText.l1 (k + 1) y0 y1 y2 y3))
 | 0 => ⟨fun _ _ _ _ _ _ r h => by simp [impl_ShapeText.l0] at h,fun _ _ _ _ r h => by simp [impl_ShapeText.l1] at h⟩
 | k + 1 => by
  obtain ⟨ih0,ih1⟩:=impl_ShapeText.mono_l k
  refine ⟨?_,?_⟩
  ·intro y0 y1 y2 y3 y4 y5
   unfold impl_ShapeText.l0
   repeat' first
   | (with_reducible exact ih0 _ _ _ _ _ _)
   | (with_reducible exact ih1 _ _ _ _)
   | (with_reducible exact impl_Mark_text.mono _ _ _)
   | (with_reducible exact LeO.refl _)
   | (with_reducible exact LeO.none _)
   | (with_reducible refine LeO.ite ?_ ?_)
   | (with_reducible refine LeO.bind ?_ (fun _ => ?_))
   | exact ih0 _ _ _ _ _ _
   | exact ih1 _ _ _ _
   | exact impl_Mark_text.mono _ _ _
   | exact LeO.none _
   | refine LeO.ite ?_ ?_
   | refine LeO.bind ?_ (fun _ => ?_)
  ·intro y0 y1 y2 y3
   unfold impl_ShapeText.l1
   repeat' first
   | (with_reducible exact ih0 _ _ _ _ _ _)
   | (with_reducible exact ih1 _ _ _ _)
   | (with_reducible exact impl_Mark_text.mono _ _ _)
   | (with_reducible exact LeO.refl _)
   | (with_reducible exact LeO.none _)
   | (with_reducible refine LeO.ite ?_ ?_)
   | (with_reducible refine LeO.bind ?_ (fun _ => ?_))
   | exact ih0 _ _ _ _ _ _
   | exact ih1 _ _ _ _
   | exact impl_Mark_text.mono _ _ _
   | exact LeO.none _
   | refine LeO.ite ?_ ?_
   | refine LeO.bind ?_ (fun _ => ?_)
theorem impl_ShapeText.mono : ∀ a0 a1 k,LeO (impl_ShapeText.f k a0 a1) (impl_ShapeText.f (k + 1) a0 a1):=by
 intro a0 a1 k
 obtain ⟨ih0,ih1⟩:=impl_ShapeText.mono_l k
 unfold impl_ShapeText.f
 repeat' first
   | (with_reducible exact ih0 _ _ _ _ _ _)
   | (with_reducible exact ih1 _ _ _ _)
   | (with_reducible exact impl_Mark_text.mono _ _ _)
   | (with_reducible exact LeO.refl _)
   | (with_reducible exact LeO.none _)
   | (with_reducible refine LeO.ite ?_ ?_)
   | (with_reducible refine LeO.bind ?_ (fun _ => ?_))
   | exact ih0 _ _ _ _ _ _
   | exact ih1 _ _ _ _
   | exact impl_Mark_text.mono _ _ _
   | exact LeO.none _
   | refine LeO.ite ?_ ?_
   | refine LeO.bind ?_ (fun _ => ?_)
set_option maxHeartbeats 8000000 in
set_option maxRecDepth 100000 in
theorem impl_ShapeText.calls (k : Nat) (A0_0 : Option Addr) (c0_0 : Nat) (l0_0 : List (S39)) (A0_1 : Option Addr) (c0_1 : Nat) (l0_1 : List (S39)) (r : ByteArray) (w : World) (hT_ : Tab w) (hr0_0 : Kd.C k39 w A0_0 l0_0.length l0_0) (hc0_0 : l0_0.length ≤ c0_0) (hr0_1 : Kd.C k39 w A0_1 l0_1.length l0_1) (hc0_1 : l0_1.length ≤ c0_1) (h : impl_ShapeText.f k l0_0 l0_1 = some r) :
  Calls Tryd.prog 7 #[.agg #[.slice A0_0 l0_0.length c0_0,.slice A0_1 l0_1.length c0_1]] w fun e w' => e = .returned (.string r) ∧ Below w.heap.size w w':=by
 have hu29:=Tryd.underlying29
 have hu39:=Tryd.underlying39
 have HR0_0:=Aside0.mk hr0_0
 have HC0_0:=Aside0.mk hc0_0
 clear hr0_0 hc0_0
 have HR0_1:=Aside0.mk hr0_1
 have HC0_1:=Aside0.mk hc0_1
 clear hr0_1 hc0_1
 have HB:=Aside0.mk (Below.refl w.heap.size w)
 have H : (impl_ShapeText.l0 k (([] : List ByteArray)) l0_0 (l0_0.length : Int) 0 l0_0 l0_1) = some r:=h
 clear h
 obtain ⟨y157,hy157⟩ : ∃ y_ : List ByteArray,y_ = (([] : List ByteArray)):=⟨_,rfl⟩
 replace H : (impl_ShapeText.l0 k y157 l0_0 (l0_0.length : Int) 0 l0_0 l0_1) = some r:=by first | (rw [hy157];with_reducible exact H) | (have H2_:=(Option.bind_some _ _).symm.trans H;rw [hy157];with_reducible exact H2_) | (have H2_:=(Option.bind_some _ _).symm.trans H;with_reducible exact H2_) | with_reducible exact H | (rw [hy157];exact H) | exact H
 have Ny157:=Aside0.mk hy157
 clear hy157
 have H':=Aside0.mk H
 clear H
 go_enter Tryd.func7,Tryd.ntmps7
 go_wp2_with (first | ((with_reducible refine gate_dst (N:=1) rfl ?_);refine Up.bx 1 29 #[.slice A0_0 l0_0.length c0_0,.slice A0_1 l0_1.length c0_1] ?_;intro gb156 hg w2 hbox hb;have n0_:=Up.BB HB hb;have n1_:=Aside0.mk (hbox);have n2_:=Up.gw hg HB;have n3_:=Up.gw hg HB;clear HB;have HB:=n0_;have BK156:=n1_;have GW156:=n2_;have GE156:=n3_;clear n0_ n1_ n2_ n3_ hb hbox hg) | ((with_reducible refine gate_dst (N:=8) rfl ?_);refine Kd.R_lit Kd.string _ 9 ?hg (N:=8) ?hd (xs:=([] : List ByteArray)) (inner:=[]) (ok:=fun _ => True) (okp:=fun _ => True) ?hr ?hp (fun _ hk => hk) trivial (Below.refl _ _) (Nat.le_refl _) (by simp) ?_;(case hd => rfl);(case hg => rfl);(case hr => first | (go_simp;done) | (go_simp;rfl));(case hp => exact (Reps.none _ _));intro v158 w3 ho4 hb hg_ hnew_;clear hg_ hnew_;(first | rw [← Ny157.out] at ho4 | (simp only [Int.reduceToNat] at ho4;rw [← Ny157.out] at ho4));have n0_:=Aside0.mk (Kd.R_lower ho4 (below_size (Up.Bx HB)));have n1_:=Up.KB BK156 hb;have n2_:=Aside0.mk (below_step (Up.Bx HB) hb);clear BK156 HB;have HO159:=n0_;have BK156:=n1_;have HB:=n2_;clear n0_ n1_ n2_ hb ho4;have hcz5_0:=Up.c0 BK156;have hcz5_1:=Up.c1 BK156;have hfz5_0:=blk_frozen BK156.out 0;have hfz5_1:=blk_frozen BK156.out 1))
 go_loopg [3,12] k (fun kq v3 v12 w' => ∃ (x3_1 : List ByteArray) (x12_1 : Int),v12 = .int .i64 x12_1 ∧ Aside0 (impl_ShapeText.l0 kq x3_1 l0_0 (l0_0.length : Int) x12_1 l0_0 l0_1 = some r) ∧ Aside0 (kq ≤ k) ∧ Aside0 (Kd.R Kd.string 9 w' w.heap.size (fun _ => True) v3 x3_1) ∧ Aside0 (w'.heap[gb156]? = some (.cells #[(.slice A0_0 l0_0.length c0_0),(.slice A0_1 l0_1.length c0_1)] 29 (0,0))) ∧ Aside0 (Below w.heap.size w w'))
 case atStart => exact ⟨(y157),(0),(by first | rfl | (simp;done) | (simp [*];done)),H',⟨Nat.le_refl _⟩,⟨Up.Rup HO159⟩,⟨by (with_reducible repeat (first | refine blk_drewN ?_ _ | refine blk_drew ?_ | refine blk_alloc ?_ _));exact BK156.out⟩,⟨Up.Bx HB⟩⟩
 case round =>
  clear H'
  try clear p2
  try clear hcz5_0
  try clear hcz5_1
  try clear hfz5_0
  try clear hfz5_1
  obtain ⟨x3_1,x12_1,rfl,HA,HK1,HO_3,BK156,HB⟩:=hrel
  cases gk with
  | zero => exact absurd HA.out (by simp [impl_ShapeText.l0])
  | succ k1 =>
   have H:=HA.out
   clear HA
   simp only [impl_ShapeText.l0] at H
   by_cases c6 : x12_1 < (l0_0.length : Int)
   ·rw [if_pos c6] at H
    have c6b0 : decide (x12_1 < (l0_0.length : Int)) = true:=decide_eq_true c6
    clear c6
    by_cases c7 : 0 ≤ x12_1
    ·rw [if_pos c7] at H
     have c7b0 : decide (0 ≤ x12_1) = true:=decide_eq_true c7
     clear c7
     by_cases c8 : x12_1 < (l0_0.length : Int)
     ·rw [if_pos c8] at H
      have c8b0 : decide (x12_1 < (l0_0.length : Int)) = true:=decide_eq_true c8
      clear c8
      replace H:=Option.bind_eq_some_iff.mp H
      obtain ⟨t162,A90,H⟩:=H
      replace H : (if x3_1.length < 8796093022208 then (impl_ShapeText.l0 k1 (x3_1 ++ [t162]) l0_0 (l0_0.length : Int) (wrap64 (x12_1 + 1)) l0_0 l0_1) else (none)) = some r:=H
      have A9:=Aside0.mk A90
      clear A90
      by_cases c10 : x3_1.length < 8796093022208
      ·rw [if_pos c10] at H
       have LMc10:=Aside0.mk c10
       clear c10
       obtain ⟨y163,hy163⟩ : ∃ y_ : List ByteArray,y_ = (x3_1 ++ [t162]):=⟨_,rfl⟩
       replace H : (impl_ShapeText.l0 k1 y163 l0_0 (l0_0.length : Int) (wrap64 (x12_1 + 1)) l0_0 l0_1) = some r:=by first | (rw [hy163];with_reducible exact H) | (have H2_:=(Option.bind_some _ _).symm.trans H;rw [hy163];with_reducible exact H2_) | (have H2_:=(Option.bind_some _ _).symm.trans H;with_reducible exact H2_) | with_reducible exact H | (rw [hy163];exact H) | exact H
       have Ny163:=Aside0.mk hy163
       clear hy163
       have H':=Aside0.mk H
       clear H
       have p160 : 0 ≤ (x12_1 : Int):=Up.od
       have q160 : x12_1 < (l0_0.length : Int):=Up.od
       obtain ⟨ad160,A160_1,c160_1,e160,hx160_0,hx160_1,hl160_1,hi160_1⟩:=at_T39 HR0_0.out x12_1 p160 q160
       cases e160
       replace hx160_0:=Up.hc HB hx160_0
       replace hx160_1:=Up.hc HB hx160_1
       have HR160_1:=Aside0.mk hi160_1
       have HC160_1:=Aside0.mk hl160_1
       clear hi160_1 hl160_1
       replace p160:=eq_true p160
       replace q160:=eq_true q160
       go_wp2_with (first | ((with_reducible refine gate_dst (N:=5) rfl ?_);refine Up.bx 5 39 #[.string (⟨#[]⟩ : ByteArray),.slice none 0 0] ?_;intro gb161 hg w11 hbox hb;have n0_:=Up.RB HO_3 hb;have n1_:=Up.KB BK156 hb;have n2_:=Aside0.mk (below_step (Up.Bx HB) hb);have n3_:=Aside0.mk (hbox);have n4_:=Up.gw hg HB;have n5_:=Up.gw hg HB;have n6_:=Up.nl hg BK156;have n7_:=Up.ng hg BK156;clear HO_3 BK156 HB;have HO_3:=n0_;have BK156:=n1_;have HB:=n2_;have BK161:=n3_;have GW161:=n4_;have GE161:=n5_;have NB156_161:=n6_;have NB161_156:=n7_;clear n0_ n1_ n2_ n3_ n4_ n5_ n6_ n7_ hb hbox hg;have hnb12:=NB161_156.out;have hnc12:=NB156_161.out;have hcz13_0:=Up.c0 BK161;have hcz13_1:=Up.c1 BK161;have hfz13_0:=blk_frozen BK161.out 0;have hfz13_1:=blk_frozen BK161.out 1) | ((with_reducible refine gate_callee (f:=12) rfl ?_);refine Up.gl (some 18) Tryd.func12 #[.agg #[.string ((rd_T39 l0_0 x12_1).f0),.slice A160_1 ((rd_T39 l0_0 x12_1).f1).length c160_1]] ?_;(with_reducible refine (impl_Mark_text.calls (hT_:=?tab1) k1 ((rd_T39 l0_0 x12_1).f0) _ _ ((rd_T39 l0_0 x12_1).f1) t162 _ ?side1 ?side2 A9.out).mono ?_);(case tab1 => exact hT_.below (Up.Bx HB));(case side1 => exact Kd.C_below HR160_1.out (Up.Bx HB));(case side2 => exact HC160_1.out);rintro e w14 ⟨rfl,hb⟩;refine ⟨_,rfl,?_⟩;have n0_:=Aside0.mk (Kd.R_below (by (with_reducible repeat (first | apply Kd.R_alloc | apply Kd.R_drewN | apply Kd.R_drew));exact (Kd.R_mono (Kd.R_far (p:=⟨gb161,1,none⟩) (Kd.R_far (p:=⟨gb161,0,none⟩) (Kd.R_types HO_3.out BK161.out (by decide)) (fun _ hk => hk.2) (.string ((rd_T39 l0_0 x12_1).f0))) (fun _ hk => hk.2) (.slice A160_1 ((rd_T39 l0_0 x12_1).f1).length c160_1)) (fun _ h_ => h_.1))) hb);have n1_:=Aside0.mk (blk_below (g:=gb156) (o:=.cells #[.slice (some ad160) l0_0.length c0_0,.slice A0_1 l0_1.length c0_1] 29 (0,0)) (Up.Kx BK156) hb);have n2_:=Aside0.mk (blk_below (g:=gb161) (o:=.cells #[.string ((rd_T39 l0_0 x12_1).f0),.slice A160_1 ((rd_T39 l0_0 x12_1).f1).length c160_1] 39 (0,0)) (Up.Kx BK161) hb);have n3_:=Aside0.mk (below_step (Up.Bx HB) hb);clear HO_3 BK156 BK161 HB;have HO_3:=n0_;have BK156:=n1_;have BK161:=n2_;have HB:=n3_;clear n0_ n1_ n2_ n3_;(try clear hb);(try clear hb2);(try clear hk);(try clear hi)) | ((with_reducible refine gate_builtin (b:=.append) (xs:=#[.tmp 16,.tmp 19]) rfl ?_);at_builtin;refine Kd.R_append Kd.string (w0:=w) w.heap.size rfl (.tmp 16) (.tmp 19) 36 9 (.string ⟨#[]⟩) 16 rfl Tryd.underlying36 info9 rfl (by decide) (by omega) u3 x3_1 t162 [.string t162] (fun _ => True) (fun _ => False) rfl rfl ?aP (fun _ hk => hk.elim) ?aF ?aO ?aB ?aS ?aL ?_;(case aP => exact rfl);(case aB => exact (Up.Bx HB));(case aF => exact (fun _ _ => trivial));(case aO => exact (Up.Rup HO_3));(case aS => exact (below_size (Up.Bx HB)));(case aL => have:=LMc10.out;omega);intro v164 w15 ho hb hg hat;rw [← Ny163.out] at ho;have n0_:=Aside0.mk (blk_grown (g:=gb156) (o:=.cells #[.slice (some ad160) l0_0.length c0_0,.slice A0_1 l0_1.length c0_1] 29 (0,0)) (Up.Kup BK156) hg (Kd.R_ne HO_3.out BK156.out (by decide)));have n1_:=Aside0.mk (blk_grown (g:=gb161) (o:=.cells #[.string ((rd_T39 l0_0 x12_1).f0),.slice A160_1 ((rd_T39 l0_0 x12_1).f1).length c160_1] 39 (0,0)) (Up.Kup BK161) hg (Kd.R_ne HO_3.out BK161.out (by decide)));have n2_:=Aside0.mk (hb);have n3_:=Aside0.mk (ho);clear BK156 BK161 HB HO_3;have BK156:=n0_;have BK161:=n1_;have HB:=n2_;have HO165:=n3_;clear n0_ n1_ n2_ n3_ ho hb hg hat))
       go_roundg k1
       case measure => have:=HK1.out;omega
       case rel => exact ⟨(y163),(wrap64 (x12_1 + 1)),(by first | rfl | (simp;done) | (simp [*];done)),H',⟨by have:=HK1.out;omega⟩,⟨Up.Rup HO165⟩,⟨by (with_reducible repeat (first | refine blk_drewN ?_ _ | refine blk_drew ?_ | refine blk_alloc ?_ _));exact BK156.out⟩,⟨Up.Bx HB⟩⟩
      ·rw [if_neg c10] at H
       exact absurd H (by simp)
     ·rw [if_neg c8] at H
      exact absurd H (by simp)
    ·rw [if_neg c7] at H
     exact absurd H (by simp)
   ·rw [if_neg c6] at H
    have c6b0 : decide (x12_1 < (l0_0.length : Int)) = false:=decide_eq_false c6
    clear c6
    by_cases c16 : x3_1.length < 8796093022208
    ·rw [if_pos c16] at H
     have LMc16:=Aside0.mk c16
     clear c16
     obtain ⟨y166,hy166⟩ : ∃ y_ : List ByteArray,y_ = (x3_1 ++ [(⟨#[124]⟩ : ByteArray)]):=⟨_,rfl⟩
     replace H : (impl_ShapeText.l1 k1 y166 l0_1 (l0_1.length : Int) 0) = some r:=by first | (rw [hy166];with_reducible exact H) | (have H2_:=(Option.bind_some _ _).symm.trans H;rw [hy166];with_reducible exact H2_) | (have H2_:=(Option.bind_some _ _).symm.trans H;with_reducible exact H2_) | with_reducible exact H | (rw [hy166];exact H) | exact H
     have Ny166:=Aside0.mk hy166
     clear hy166
     have H':=Aside0.mk H
     clear H
     go_wp2_with (first | ((with_reducible refine gate_builtin (b:=.append) (xs:=#[.tmp 22,.tmp 23]) rfl ?_);at_builtin;refine Kd.R_append Kd.string (w0:=w) w.heap.size rfl (.tmp 22) (.tmp 23) 36 9 (.string ⟨#[]⟩) 16 rfl Tryd.underlying36 info9 rfl (by decide) (by omega) u3 x3_1 (⟨#[124]⟩ : ByteArray) [.string (⟨#[124]⟩ : ByteArray)] (fun _ => True) (fun _ => False) rfl rfl ?aP (fun _ hk => hk.elim) ?aF ?aO ?aB ?aS ?aL ?_;(case aP => exact rfl);(case aB => exact (Up.Bx HB));(case aF => exact (fun _ _ => trivial));(case aO => exact (Up.Rup HO_3));(case aS => exact (below_size (Up.Bx HB)));(case aL => have:=LMc16.out;omega);intro v167 w17 ho hb hg hat;rw [← Ny166.out] at ho;have n0_:=Aside0.mk (blk_grown (g:=gb156) (o:=.cells #[.slice A0_0 l0_0.length c0_0,.slice A0_1 l0_1.length c0_1] 29 (0,0)) (Up.Kup BK156) hg (Kd.R_ne HO_3.out BK156.out (by decide)));have n1_:=Aside0.mk (hb);have n2_:=Aside0.mk (ho);clear BK156 HB HO_3;have BK156:=n0_;have HB:=n1_;have HO168:=n2_;clear n0_ n1_ n2_ ho hb hg hat;have hcz18_0:=Up.c0 BK156;have hcz18_1:=Up.c1 BK156;have hfz18_0:=blk_frozen BK156.out 0;have hfz18_1:=blk_frozen BK156.out 1))
     go_loopg [3,28] k1 (fun kq v3 v28 w' => ∃ (x3_2 : List ByteArray) (x28_2 : Int),v28 = .int .i64 x28_2 ∧ Aside0 (impl_ShapeText.l1 kq x3_2 l0_1 (l0_1.length : Int) x28_2 = some r) ∧ Aside0 (kq ≤ k1) ∧ Aside0 (Kd.R Kd.string 9 w' w.heap.size (fun _ => True) v3 x3_2) ∧ Aside0 (w'.heap[gb156]? = some (.cells #[(.slice A0_0 l0_0.length c0_0),(.slice A0_1 l0_1.length c0_1)] 29 (0,0))) ∧ Aside0 (Below w.heap.size w w'))
     case atStart => exact ⟨(y166),(0),(by first | rfl | (simp;done) | (simp [*];done)),H',⟨Nat.le_refl _⟩,⟨Up.Rup HO168⟩,⟨by (with_reducible repeat (first | refine blk_drewN ?_ _ | refine blk_drew ?_ | refine blk_alloc ?_ _));exact BK156.out⟩,⟨Up.Bx HB⟩⟩
     case round =>
      clear H'
      try clear c1
      try clear p1
      try clear q1
      try clear hx1
      try clear p2
      try clear c6
      try clear c6b0
      try clear p6
      try clear c7
      try clear c7b0
      try clear c8
      try clear c8b0
      try clear c10
      try clear c12
      try clear c16
      try clear p16
      try clear q16
      try clear hx16
      try clear hcz13_0
      try clear hcz13_1
      try clear hcz18_0
      try clear hcz18_1
      try clear hcz5_0
      try clear hcz5_1
      try clear hfz13_0
      try clear hfz13_1
      try clear hfz18_0
      try clear hfz18_1
      try clear hfz5_0
      try clear hfz5_1
      try clear hx160_0
      try clear hx160_1
      try clear p160
      try clear p2
      try clear q160
      obtain ⟨x3_2,x28_2,rfl,HA,HK2,HO_3,BK156,HB⟩:=hrel
      cases gk with
      | zero => exact absurd HA.out (by simp [impl_ShapeText.l1])
      | succ k2 =>
       have H:=HA.out
       clear HA
       simp only [impl_ShapeText.l1] at H
       by_cases c19 : x28_2 < (l0_1.length : Int)
       ·rw [if_pos c19] at H
        have c19b0 : decide (x28_2 < (l0_1.length : Int)) = true:=decide_eq_true c19
        clear c19
        by_cases c20 : 0 ≤ x28_2
        ·rw [if_pos c20] at H
         have c20b0 : decide (0 ≤ x28_2) = true:=decide_eq_true c20
         clear c20
         by_cases c21 : x28_2 < (l0_1.length : Int)
         ·rw [if_pos c21] at H
          have c21b0 : decide (x28_2 < (l0_1.length : Int)) = true:=decide_eq_true c21
          clear c21
          replace H:=Option.bind_eq_some_iff.mp H
          obtain ⟨t171,A220,H⟩:=H
          replace H : (if x3_2.length < 8796093022208 then (impl_ShapeText.l1 k2 (x3_2 ++ [t171]) l0_1 (l0_1.length : Int) (wrap64 (x28_2 + 1))) else (none)) = some r:=H
          have A22:=Aside0.mk A220
          clear A220
          by_cases c23 : x3_2.length < 8796093022208
          ·rw [if_pos c23] at H
           have LMc23:=Aside0.mk c23
           clear c23
           obtain ⟨y172,hy172⟩ : ∃ y_ : List ByteArray,y_ = (x3_2 ++ [t171]):=⟨_,rfl⟩
           replace H : (impl_ShapeText.l1 k2 y172 l0_1 (l0_1.length : Int) (wrap64 (x28_2 + 1))) = some r:=by first | (rw [hy172];with_reducible exact H) | (have H2_:=(Option.bind_some _ _).symm.trans H;rw [hy172];with_reducible exact H2_) | (have H2_:=(Option.bind_some _ _).symm.trans H;with_reducible exact H2_) | with_reducible exact H | (rw [hy172];exact H) | exact H
           have Ny172:=Aside0.mk hy172
           clear hy172
           have H':=Aside0.mk H
           clear H
           have p169 : 0 ≤ (x28_2 : Int):=Up.od
           have q169 : x28_2 < (l0_1.length : Int):=Up.od
           obtain ⟨ad169,A169_1,c169_1,e169,hx169_0,hx169_1,hl169_1,hi169_1⟩:=at_T39 HR0_1.out x28_2 p169 q169
           cases e169
           replace hx169_0:=Up.hc HB hx169_0
           replace hx169_1:=Up.hc HB hx169_1
           have HR169_1:=Aside0.mk hi169_1
           have HC169_1:=Aside0.mk hl169_1
           clear hi169_1 hl169_1
           replace p169:=eq_true p169
           replace q169:=eq_true q169
           go_wp2_with (first | ((with_reducible refine gate_dst (N:=7) rfl ?_);refine Up.bx 7 39 #[.string (⟨#[]⟩ : ByteArray),.slice none 0 0] ?_;intro gb170 hg w24 hbox hb;have n0_:=Up.RB HO_3 hb;have n1_:=Up.KB BK156 hb;have n2_:=Aside0.mk (below_step (Up.Bx HB) hb);have n3_:=Aside0.mk (hbox);have n4_:=Up.gw hg HB;have n5_:=Up.gw hg HB;have n6_:=Up.nl hg BK156;have n7_:=Up.ng hg BK156;clear HO_3 BK156 HB;have HO_3:=n0_;have BK156:=n1_;have HB:=n2_;have BK170:=n3_;have GW170:=n4_;have GE170:=n5_;have NB156_170:=n6_;have NB170_156:=n7_;clear n0_ n1_ n2_ n3_ n4_ n5_ n6_ n7_ hb hbox hg;have hnb25:=NB170_156.out;have hnc25:=NB156_170.out;have hcz26_0:=Up.c0 BK170;have hcz26_1:=Up.c1 BK170;have hfz26_0:=blk_frozen BK170.out 0;have hfz26_1:=blk_frozen BK170.out 1) | ((with_reducible refine gate_callee (f:=12) rfl ?_);refine Up.gl (some 34) Tryd.func12 #[.agg #[.string ((rd_T39 l0_1 x28_2).f0),.slice A169_1 ((rd_T39 l0_1 x28_2).f1).length c169_1]] ?_;(with_reducible refine (impl_Mark_text.calls (hT_:=?tab1) k2 ((rd_T39 l0_1 x28_2).f0) _ _ ((rd_T39 l0_1 x28_2).f1) t171 _ ?side1 ?side2 A22.out).mono ?_);(case tab1 => exact hT_.below (Up.Bx HB));(case side1 => exact Kd.C_below HR169_1.out (Up.Bx HB));(case side2 => exact HC169_1.out);rintro e w27 ⟨rfl,hb⟩;refine ⟨_,rfl,?_⟩;have n0_:=Aside0.mk (Kd.R_below (by (with_reducible repeat (first | apply Kd.R_alloc | apply Kd.R_drewN | apply Kd.R_drew));exact (Kd.R_mono (Kd.R_far (p:=⟨gb170,1,none⟩) (Kd.R_far (p:=⟨gb170,0,none⟩) (Kd.R_types HO_3.out BK170.out (by decide)) (fun _ hk => hk.2) (.string ((rd_T39 l0_1 x28_2).f0))) (fun _ hk => hk.2) (.slice A169_1 ((rd_T39 l0_1 x28_2).f1).length c169_1)) (fun _ h_ => h_.1))) hb);have n1_:=Aside0.mk (blk_below (g:=gb156) (o:=.cells #[.slice A0_0 l0_0.length c0_0,.slice (some ad169) l0_1.length c0_1] 29 (0,0)) (Up.Kx BK156) hb);have n2_:=Aside0.mk (blk_below (g:=gb170) (o:=.cells #[.string ((rd_T39 l0_1 x28_2).f0),.slice A169_1 ((rd_T39 l0_1 x28_2).f1).length c169_1] 39 (0,0)) (Up.Kx BK170) hb);have n3_:=Aside0.mk (below_step (Up.Bx HB) hb);clear HO_3 BK156 BK170 HB;have HO_3:=n0_;have BK156:=n1_;have BK170:=n2_;have HB:=n3_;clear n0_ n1_ n2_ n3_;(try clear hb);(try clear hb2);(try clear hk);(try clear hi)) | ((with_reducible refine gate_builtin (b:=.append) (xs:=#[.tmp 32,.tmp 35]) rfl ?_);at_builtin;refine Kd.R_append Kd.string (w0:=w) w.heap.size rfl (.tmp 32) (.tmp 35) 36 9 (.string ⟨#[]⟩) 16 rfl Tryd.underlying36 info9 rfl (by decide) (by omega) u3 x3_2 t171 [.string t171] (fun _ => True) (fun _ => False) rfl rfl ?aP (fun _ hk => hk.elim) ?aF ?aO ?aB ?aS ?aL ?_;(case aP => exact rfl);(case aB => exact (Up.Bx HB));(case aF => exact (fun _ _ => trivial));(case aO => exact (Up.Rup HO_3));(case aS => exact (below_size (Up.Bx HB)));(case aL => have:=LMc23.out;omega);intro v173 w28 ho hb hg hat;rw [← Ny172.out] at ho;have n0_:=Aside0.mk (blk_grown (g:=gb156) (o:=.cells #[.slice A0_0 l0_0.length c0_0,.slice (some ad169) l0_1.length c0_1] 29 (0,0)) (Up.Kup BK156) hg (Kd.R_ne HO_3.out BK156.out (by decide)));have n1_:=Aside0.mk (blk_grown (g:=gb170) (o:=.cells #[.string ((rd_T39 l0_1 x28_2).f0),.slice A169_1 ((rd_T39 l0_1 x28_2).f1).length c169_1] 39 (0,0)) (Up.Kup BK170) hg (Kd.R_ne HO_3.out BK170.out (by decide)));have n2_:=Aside0.mk (hb);have n3_:=Aside0.mk (ho);clear BK156 BK170 HB HO_3;have BK156:=n0_;have BK170:=n1_;have HB:=n2_;have HO174:=n3_;clear n0_ n1_ n2_ n3_ ho hb hg hat))
           go_roundg k2
           case measure => have:=HK1.out;have:=HK2.out;omega
           case rel => exact ⟨(y172),(wrap64 (x28_2 + 1)),(by first | rfl | (simp;done) | (simp [*];done)),H',⟨by have:=HK1.out;have:=HK2.out;omega⟩,⟨Up.Rup HO174⟩,⟨by (with_reducible repeat (first | refine blk_drewN ?_ _ | refine blk_drew ?_ | refine blk_alloc ?_ _));exact BK156.out⟩,⟨Up.Bx HB⟩⟩
          ·rw [if_neg c23] at H
           exact absurd H (by simp)
         ·rw [if_neg c21] at H
          exact absurd H (by simp)
        ·rw [if_neg c20] at H
         exact absurd H (by simp)
       ·rw [if_neg c19] at H
        have c19b0 : decide (x28_2 < (l0_1.length : Int)) = false:=decide_eq_false c19
        clear c19
        replace H:=Option.bind_eq_some_iff.mp H
        obtain ⟨t175,A290,H⟩:=H
        replace H : (some t175) = some r:=H
        have A29:=Aside0.mk A290
        clear A290
        obtain rfl:=Option.some.inj H
        obtain ⟨Ao30,co30,eo30⟩:=Kd.R_slice HO_3.out
        subst eo30
        go_wp2_with (first | ((with_reducible refine gate_callee (f:=13) rfl ?_);refine Up.gl (some 39) Tryd.func13 #[.slice Ao30 x3_2.length co30,.string (⟨#[32]⟩ : ByteArray)] ?_;(with_reducible refine (strings_Join.calls _ _ x3_2 (⟨#[32]⟩ : ByteArray) t175 _ ?side1 ?side2 A29.out).mono ?_);(case side1 => repeat (first | exact (Kd.R_reads' HO_3.out).2.2 | (with_reducible refine Kd.C_alloc ?_ _) | (with_reducible refine Kd.C_drewN ?_ _) | (with_reducible refine Kd.C_drew ?_)));(case side2 => exact (Kd.R_reads' HO_3.out).2.1);rintro e w31 ⟨rfl,hb⟩;refine ⟨_,rfl,?_⟩;have n0_:=Up.RB HO_3 hb;have n1_:=Up.KB BK156 hb;have n2_:=Aside0.mk (below_step (Up.Bx HB) hb);clear HO_3 BK156 HB;have HO_3:=n0_;have BK156:=n1_;have HB:=n2_;clear n0_ n1_ n2_;(try clear hb);(try clear hb2);(try clear hk);(try clear hi)))
        go_ret
        exact Up.e1 (Up.Bx HB)
    ·rw [if_neg c16] at H
     exact absurd H (by simp)

/-! ### laws_eqIntS: function 28 -/
def laws_eqIntS.l0 : Nat → List Int → List Int → Int → Option (Bool)
 | 0,_,_,_ => none
 | k + 1,x0,x1,x5 => if x5 < (x0.length : Int) then (if 0 ≤ x5 then (if x5 < (x1.length : Int) then (if (rd x0 x5) = (rd x1 x5) then (laws_eqIntS.l0 k x0 x1 (wrap64 (x5 + 1))) else (some false)) else (none)) else (none)) else (some true)
def laws_eqIntS.f (k : Nat) (l0 : List Int) (l1 : List Int) : Option (Bool):=if (l0.length : Int) = (l1.length : Int) then (laws_eqIntS.l0 k l0 l1 0) else (some false)
theorem laws_eqIntS.mono_l : ∀ k,(∀ y0 y1 y2,LeO (laws_eqIntS.l0 k y0 y1 y2) (laws_eqIntS.l0 (k + 1) y0 y1 y2))
 | 0 => fun _ _ _ r h => by simp [laws_eqIntS.l0] at h
 | k + 1 => by
  have ih0:=laws_eqIntS.mono_l k
  ·intro y0 y1 y2
   unfold laws_eqIntS.l0
   repeat' first
   | (with_reducible exact ih0 _ _ _)
   | (with_reducible exact LeO.refl _)
   | (with_reducible exact LeO.none _)
   | (with_reducible refine LeO.ite ?_ ?_)
   | (with_reducible refine LeO.bind ?_ (fun _ => ?_))
   | exact ih0 _ _ _
   | exact LeO.none _
   | refine LeO.ite ?_ ?_
   | refine LeO.bind ?_ (fun _ => ?_)
theorem laws_eqIntS.mono : ∀ a0 a1 k,LeO (laws_eqIntS.f k a0 a1) (laws_eqIntS.f (k + 1) a0 a1):=by
 intro a0 a1 k
 have ih0:=laws_eqIntS.mono_l k
 unfold laws_eqIntS.f
 repeat' first
   | (with_reducible exact ih0 _ _ _)
   | (with_reducible exact LeO.refl _)
   | (with_reducible exact LeO.none _)
   | (with_reducible refine LeO.ite ?_ ?_)
   | (with_reducible refine LeO.bind ?_ (fun _ => ?_))
   | exact ih0 _ _ _
   | exact LeO.none _
   | refine LeO.ite ?_ ?_
   | refine LeO.bind ?_ (fun _ => ?_)
set_option maxHeartbeats 8000000 in
set_option maxRecDepth 100000 in
theorem laws_eqIntS.calls (k : Nat) (A0 : Option Addr) (c0 : Nat) (l0 : List Int) (A1 : Option Addr) (c1 : Nat) (l1 : List Int) (r : Bool) (w : World) (hr0 : Kd.C (Kd.int .i64) w A0 l0.length l0) (hc0 : l0.length ≤ c0) (hr1 : Kd.C (Kd.int .i64) w A1 l1.length l1) (hc1 : l1.length ≤ c1) (h : laws_eqIntS.f k l0 l1 = some r) :
  Calls Tryd.prog 28 #[.slice A0 l0.length c0,.slice A1 l1.length c1] w fun e w' => e = .returned (.bool r) ∧ Drawn0 w w':=by
 have HR0:=Aside0.mk hr0
 have HC0:=Aside0.mk hc0
 clear hr0 hc0
 have HR1:=Aside0.mk hr1
 have HC1:=Aside0.mk hc1
 clear hr1 hc1
 have H : (if (l0.length : Int) = (l1.length : Int) then (laws_eqIntS.l0 k l0 l1 0) else (some false)) = some r:=h
 clear h
 by_cases c3 : (l0.length : Int) = (l1.length : Int)
 ·rw [if_pos c3] at H
  have c3b0 : ((l0.length : Int) == (l1.length : Int)) = true:=beq_iff_eq.mpr c3
  have c3b1 : ((l0.length : Int) != (l1.length : Int)) = false:=bne_eq_false_iff_eq.mpr c3
  have c3b2 : (l0.length == l1.length) = true:=by first | simpa using c3 | (simp at c3 ⊢;omega)
  clear c3
  have H':=Aside0.mk H
  clear H
  go_enter Tryd.func28,Tryd.ntmps28
  go_wp2
  repeat (go_quiet (fail);try go_wp2)
  go_loopg [5] k (fun kq v5 w' => ∃ (x5_1 : Int),v5 = .int .i64 x5_1 ∧ Aside0 (laws_eqIntS.l0 kq l0 l1 x5_1 = some r) ∧ Aside0 (kq ≤ k) ∧ Drawn0 w w')
  case atStart => exact ⟨(0),(by first | rfl | (simp;done) | (simp [*];done)),H',⟨Nat.le_refl _⟩,by repeat (first | exact Drawn0.refl _ | apply Drawn0.step)⟩
  case round =>
   clear H'
   try clear c1
   try clear c2
   try clear p2
   try clear c3
   try clear c3b0
   try clear c3b1
   try clear c3b2
   obtain ⟨x5_1,rfl,HA,HK1,⟨m1,rfl⟩⟩:=hrel
   cases gk with
   | zero => exact absurd HA.out (by simp [laws_eqIntS.l0])
   | succ k1 =>
    have H:=HA.out
    clear HA
    simp only [laws_eqIntS.l0] at H
    by_cases c4 : x5_1 < (l0.length : Int)
    ·rw [if_pos c4] at H
     have c4b0 : decide (x5_1 < (l0.length : Int)) = true:=decide_eq_true c4
     clear c4
     by_cases c5 : 0 ≤ x5_1
     ·rw [if_pos c5] at H
      have c5b0 : decide (0 ≤ x5_1) = true:=decide_eq_true c5
      clear c5
      by_cases c6 : x5_1 < (l1.length : Int)
      ·rw [if_pos c6] at H
       have c6b0 : decide (x5_1 < (l1.length : Int)) = true:=decide_eq_true c6
       clear c6
       by_cases c7 : (rd l0 x5_1) = (rd l1 x5_1)
       ·rw [if_pos c7] at H
        have c7b0 : ((rd l0 x5_1) == (rd l1 x5_1)) = true:=beq_iff_eq.mpr c7
        have c7b1 : ((rd l0 x5_1) != (rd l1 x5_1)) = false:=bne_eq_false_iff_eq.mpr c7
        clear c7
        have H':=Aside0.mk H
        clear H
        have p176 : 0 ≤ (x5_1 : Int):=Up.od
        have q176 : x5_1 < (l0.length : Int):=Up.od
        obtain ⟨ad176,e176,hx176_0⟩:=Kd.at_int HR0.out x5_1 p176 q176
        cases e176
        replace p176:=eq_true p176
        replace q176:=eq_true q176
        have p177 : 0 ≤ (x5_1 : Int):=Up.od
        have q177 : x5_1 < (l1.length : Int):=Up.od
        obtain ⟨ad177,e177,hx177_0⟩:=Kd.at_int HR1.out x5_1 p177 q177
        cases e177
        replace p177:=eq_true p177
        replace q177:=eq_true q177
        go_wp2
        repeat (go_quiet (fail);try go_wp2)
        go_roundg k1
        case measure => have:=HK1.out;omega
        case rel => exact ⟨(wrap64 (x5_1 + 1)),(by first | rfl | (simp;done) | (simp [*];done)),H',⟨by have:=HK1.out;omega⟩,by repeat (first | exact Drawn0.refl _ | apply Drawn0.step)⟩
       ·rw [if_neg c7] at H
        have c7b0 : ((rd l0 x5_1) == (rd l1 x5_1)) = false:=beq_eq_false_iff_ne.mpr c7
        have c7b1 : ((rd l0 x5_1) != (rd l1 x5_1)) = true:=bne_iff_ne.mpr c7
        obtain rfl:=Option.some.inj H
        have p176 : 0 ≤ (x5_1 : Int):=Up.od
        have q176 : x5_1 < (l0.length : Int):=Up.od
        obtain ⟨ad176,e176,hx176_0⟩:=Kd.at_int HR0.out x5_1 p176 q176
        cases e176
        replace p176:=eq_true p176
        replace q176:=eq_true q176
        have p177 : 0 ≤ (x5_1 : Int):=Up.od
        have q177 : x5_1 < (l1.length : Int):=Up.od
        obtain ⟨ad177,e177,hx177_0⟩:=Kd.at_int HR1.out x5_1 p177 q177
        cases e177
        replace p177:=eq_true p177
        replace q177:=eq_true q177
        go_wp2
        repeat (go_quiet (fail);try go_wp2)
        go_ret
        exact Up.e2
      ·rw [if_neg c6] at H
       exact absurd H (by simp)
     ·rw [if_neg c5] at H
      exact absurd H (by simp)
    ·rw [if_neg c4] at H
     have c4b0 : decide (x5_1 < (l0.length : Int)) = false:=decide_eq_false c4
     clear c4
     obtain rfl:=Option.some.inj H
     go_wp2
     repeat (go_quiet (fail);try go_wp2)
     go_ret
     exact Up.e2
 ·rw [if_neg c3] at H
  have c3b0 : ((l0.length : Int) == (l1.length : Int)) = false:=beq_eq_false_iff_ne.mpr c3
  have c3b1 : ((l0.length : Int) != (l1.length : Int)) = true:=bne_iff_ne.mpr c3
  have c3b2 : (l0.length == l1.length) = false:=by first | simpa using c3 | (simp at c3 ⊢;omega)
  obtain rfl:=Option.some.inj H
  go_enter Tryd.func28,Tryd.ntmps28
  go_wp2
  repeat (go_quiet (fail);try go_wp2)
  go_ret
  exact Up.e2

/-! ### laws_eqMark: function 22 -/
def laws_eqMark.f (k : Nat) (a0_0 : ByteArray) (l0_1 : List Int) (a1_0 : ByteArray) (l1_1 : List Int) : Option (Bool):=if a0_0.toList = a1_0.toList then ((laws_eqIntS.f k l0_1 l1_1).bind fun t180 => (if t180 = true then (some true) else (some false))) else (some false)
theorem laws_eqMark.mono : ∀ a0 a1 a2 a3 k,LeO (laws_eqMark.f k a0 a1 a2 a3) (laws_eqMark.f (k + 1) a0 a1 a2 a3):=by
 intro a0 a1 a2 a3 k
 unfold laws_eqMark.f
 repeat' first
   | (with_reducible exact laws_eqIntS.mono _ _ _)
   | (with_reducible exact LeO.refl _)
   | (with_reducible exact LeO.none _)
   | (with_reducible refine LeO.ite ?_ ?_)
   | (with_reducible refine LeO.bind ?_ (fun _ => ?_))
   | exact laws_eqIntS.mono _ _ _
   | exact LeO.none _
   | refine LeO.ite ?_ ?_
   | refine LeO.bind ?_ (fun _ => ?_)
set_option maxHeartbeats 8000000 in
set_option maxRecDepth 100000 in
theorem laws_eqMark.calls (k : Nat) (a0_0 : ByteArray) (A0_1 : Option Addr) (c0_1 : Nat) (l0_1 : List Int) (a1_0 : ByteArray) (A1_1 : Option Addr) (c1_1 : Nat) (l1_1 : List Int) (r : Bool) (w : World) (hr0_1 : Kd.C (Kd.int .i64) w A0_1 l0_1.length l0_1) (hc0_1 : l0_1.length ≤ c0_1) (hr1_1 : Kd.C (Kd.int .i64) w A1_1 l1_1.length l1_1) (hc1_1 : l1_1.length ≤ c1_1) (h : laws_eqMark.f k a0_0 l0_1 a1_0 l1_1 = some r) :
  Calls Tryd.prog 22 #[.agg #[.string a0_0,.slice A0_1 l0_1.length c0_1],.agg #[.string a1_0,.slice A1_1 l1_1.length c1_1]] w fun e w' => e = .returned (.bool r) ∧ Below w.heap.size w w':=by
 have hu39:=Tryd.underlying39
 have HR0_1:=Aside0.mk hr0_1
 have HC0_1:=Aside0.mk hc0_1
 clear hr0_1 hc0_1
 have HR1_1:=Aside0.mk hr1_1
 have HC1_1:=Aside0.mk hc1_1
 clear hr1_1 hc1_1
 have HB:=Aside0.mk (Below.refl w.heap.size w)
 have H : (if a0_0.toList = a1_0.toList then ((laws_eqIntS.f k l0_1 l1_1).bind fun t180 => (if t180 = true then (some true) else (some false))) else (some false)) = some r:=h
 clear h
 by_cases c3 : a0_0.toList = a1_0.toList
 ·rw [if_pos c3] at H
  have c3b0 : (a0_0.toList == a1_0.toList) = true:=beq_iff_eq.mpr c3
  have c3b1 : (a0_0.toList != a1_0.toList) = false:=bne_eq_false_iff_eq.mpr c3
  clear c3
  replace H:=Option.bind_eq_some_iff.mp H
  obtain ⟨t180,A40,H⟩:=H
  replace H : (if t180 = true then (some true) else (some false)) = some r:=H
  have A4:=Aside0.mk A40
  clear A40
  by_cases c5 : t180 = true
  ·subst c5
   have H1 : (some true) = some r:=by rw [if_pos rfl] at H;exact H
   clear H
   have H:=H1
   clear H1
   obtain rfl:=Option.some.inj H
   go_enter Tryd.func22,Tryd.ntmps22
   go_wp2_with (first | ((with_reducible refine gate_dst (N:=2) rfl ?_);refine Up.bx 2 39 #[.string a0_0,.slice A0_1 l0_1.length c0_1] ?_;intro gb178 hg w6 hbox hb;have n0_:=Up.BB HB hb;have n1_:=Aside0.mk (hbox);have n2_:=Up.gw hg HB;have n3_:=Up.gw hg HB;clear HB;have HB:=n0_;have BK178:=n1_;have GW178:=n2_;have GE178:=n3_;clear n0_ n1_ n2_ n3_ hb hbox hg) | ((with_reducible refine gate_dst (N:=3) rfl ?_);refine Up.bx 3 39 #[.string a1_0,.slice A1_1 l1_1.length c1_1] ?_;intro gb179 hg w7 hbox hb;have n0_:=Up.KB BK178 hb;have n1_:=Aside0.mk (below_step (Up.Bx HB) hb);have n2_:=Aside0.mk (hbox);have n3_:=Up.gw hg HB;have n4_:=Up.gw hg HB;have n5_:=Up.nl hg BK178;have n6_:=Up.ng hg BK178;clear BK178 HB;have BK178:=n0_;have HB:=n1_;have BK179:=n2_;have GW179:=n3_;have GE179:=n4_;have NB178_179:=n5_;have NB179_178:=n6_;clear n0_ n1_ n2_ n3_ n4_ n5_ n6_ hb hbox hg;have hnb8:=NB178_179.out;have hnc8:=NB179_178.out;have hcz9_0:=Up.c0 BK178;have hcz9_1:=Up.c1 BK178;have hfz9_0:=blk_frozen BK178.out 0;have hfz9_1:=blk_frozen BK178.out 1;have hcz10_0:=Up.c0 BK179;have hcz10_1:=Up.c1 BK179;have hfz10_0:=blk_frozen BK179.out 0;have hfz10_1:=blk_frozen BK179.out 1) | ((with_reducible refine gate_callee (f:=28) rfl ?_);refine Up.gl (some 14) Tryd.func28 #[.slice A0_1 l0_1.length c0_1,.slice A1_1 l1_1.length c1_1] ?_;(with_reducible refine (laws_eqIntS.calls k _ _ l0_1 _ _ l1_1 true _ ?side1 ?side2 ?side3 ?side4 A4.out).mono ?_);(case side1 => exact Up.Cx HR0_1 HB);(case side2 => exact HC0_1.out);(case side3 => exact Up.Cx HR1_1 HB);(case side4 => exact HC1_1.out);rintro e w' ⟨rfl,⟨nd,rfl⟩⟩;refine ⟨_,rfl,?_⟩))
   go_ret
   exact Up.e1 (Up.Bx HB)
  ·replace c5:=Bool.eq_false_iff.mpr c5
   subst c5
   have H1 : (some false) = some r:=by rw [if_neg (show ¬ (false = true) by decide)] at H;exact H
   clear H
   have H:=H1
   clear H1
   obtain rfl:=Option.some.inj H
   go_enter Tryd.func22,Tryd.ntmps22
   go_wp2_with (first | ((with_reducible refine gate_dst (N:=2) rfl ?_);refine Up.bx 2 39 #[.string a0_0,.slice A0_1 l0_1.length c0_1] ?_;intro gb178 hg w11 hbox hb;have n0_:=Up.BB HB hb;have n1_:=Aside0.mk (hbox);have n2_:=Up.gw hg HB;have n3_:=Up.gw hg HB;clear HB;have HB:=n0_;have BK178:=n1_;have GW178:=n2_;have GE178:=n3_;clear n0_ n1_ n2_ n3_ hb hbox hg) | ((with_reducible refine gate_dst (N:=3) rfl ?_);refine Up.bx 3 39 #[.string a1_0,.slice A1_1 l1_1.length c1_1] ?_;intro gb179 hg w12 hbox hb;have n0_:=Up.KB BK178 hb;have n1_:=Aside0.mk (below_step (Up.Bx HB) hb);have n2_:=Aside0.mk (hbox);have n3_:=Up.gw hg HB;have n4_:=Up.gw hg HB;have n5_:=Up.nl hg BK178;have n6_:=Up.ng hg BK178;clear BK178 HB;have BK178:=n0_;have HB:=n1_;have BK179:=n2_;have GW179:=n3_;have GE179:=n4_;have NB178_179:=n5_;have NB179_178:=n6_;clear n0_ n1_ n2_ n3_ n4_ n5_ n6_ hb hbox hg;have hnb13:=NB178_179.out;have hnc13:=NB179_178.out;have hcz14_0:=Up.c0 BK178;have hcz14_1:=Up.c1 BK178;have hfz14_0:=blk_frozen BK178.out 0;have hfz14_1:=blk_frozen BK178.out 1;have hcz15_0:=Up.c0 BK179;have hcz15_1:=Up.c1 BK179;have hfz15_0:=blk_frozen BK179.out 0;have hfz15_1:=blk_frozen BK179.out 1) | ((with_reducible refine gate_callee (f:=28) rfl ?_);refine Up.gl (some 14) Tryd.func28 #[.slice A0_1 l0_1.length c0_1,.slice A1_1 l1_1.length c1_1] ?_;(with_reducible refine (laws_eqIntS.calls k _ _ l0_1 _ _ l1_1 false _ ?side1 ?side2 ?side3 ?side4 A4.out).mono ?_);(case side1 => exact Up.Cx HR0_1 HB);(case side2 => exact HC0_1.out);(case side3 => exact Up.Cx HR1_1 HB);(case side4 => exact HC1_1.out);rintro e w' ⟨rfl,⟨nd,rfl⟩⟩;refine ⟨_,rfl,?_⟩))
   go_ret
   exact Up.e1 (Up.Bx HB)
 ·rw [if_neg c3] at H
  have c3b0 : (a0_0.toList == a1_0.toList) = false:=beq_eq_false_iff_ne.mpr c3
  have c3b1 : (a0_0.toList != a1_0.toList) = true:=bne_iff_ne.mpr c3
  obtain rfl:=Option.some.inj H
  go_enter Tryd.func22,Tryd.ntmps22
  go_wp2_with (first | ((with_reducible refine gate_dst (N:=2) rfl ?_);refine Up.bx 2 39 #[.string a0_0,.slice A0_1 l0_1.length c0_1] ?_;intro gb178 hg w16 hbox hb;have n0_:=Up.BB HB hb;have n1_:=Aside0.mk (hbox);have n2_:=Up.gw hg HB;have n3_:=Up.gw hg HB;clear HB;have HB:=n0_;have BK178:=n1_;have GW178:=n2_;have GE178:=n3_;clear n0_ n1_ n2_ n3_ hb hbox hg) | ((with_reducible refine gate_dst (N:=3) rfl ?_);refine Up.bx 3 39 #[.string a1_0,.slice A1_1 l1_1.length c1_1] ?_;intro gb179 hg w17 hbox hb;have n0_:=Up.KB BK178 hb;have n1_:=Aside0.mk (below_step (Up.Bx HB) hb);have n2_:=Aside0.mk (hbox);have n3_:=Up.gw hg HB;have n4_:=Up.gw hg HB;have n5_:=Up.nl hg BK178;have n6_:=Up.ng hg BK178;clear BK178 HB;have BK178:=n0_;have HB:=n1_;have BK179:=n2_;have GW179:=n3_;have GE179:=n4_;have NB178_179:=n5_;have NB179_178:=n6_;clear n0_ n1_ n2_ n3_ n4_ n5_ n6_ hb hbox hg;have hnb18:=NB178_179.out;have hnc18:=NB179_178.out;have hcz19_0:=Up.c0 BK178;have hcz19_1:=Up.c1 BK178;have hfz19_0:=blk_frozen BK178.out 0;have hfz19_1:=blk_frozen BK178.out 1;have hcz20_0:=Up.c0 BK179;have hcz20_1:=Up.c1 BK179;have hfz20_0:=blk_frozen BK179.out 0;have hfz20_1:=blk_frozen BK179.out 1))
  go_ret
  exact Up.e1 (Up.Bx HB)

end Go.Proofs.YtpfpfnjmhdgglaaDoor.OFnExactShapeText
