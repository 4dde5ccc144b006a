-- Laid by a program of this session (wip/myprint.py): the kit's print of the functions, contracts of our own among them.
import Derived.Test.YtfkhjnmgaadomaaDoorOFnInsOkx0
import Derived.Test.YtfkhjnmgaadomaaDoorOFnInsOkx1
namespace Go.Proofs.YtfkhjnmgaadomaaDoor.OFnInsOk
open Go.RowKit Go.Proofs.YtfkhjnmgaadomaaDoorW.PrintWords Go.Proofs.YtfkhjnmgaadomaaDoorW.PrintLast Go.Proofs.YtfkhjnmgaadomaaDoorW.PrintMore
attribute [local go_sem] max2_int min2_int max_two min_two max_three min_three max_four min_four   -- for this text's walks alone
set_option linter.unusedVariables false
set_option linter.unusedSimpArgs false

/-! ### strconv_Itoa: function 52 -/

def strconv_Itoa.f (n : Int) : Option ByteArray := if -9223372036854775808 ≤ n ∧ n ≤ 9223372036854775807 then some ⟨(Lib.itoa n).toArray⟩ else none
theorem below_grown_ (w : World) (k : Nat) (os : Array Obj) : Below w.heap.size w (Sort.grow (w.drewN k) os) :=
  ⟨rfl, rfl, rfl, by simp [Sort.grow, World.drewN], fun i hi => by simp [Sort.grow, World.drewN, Array.getElem?_append_left hi]⟩
theorem strconv_Itoa.calls (a0 : Int) (r : ByteArray) (w : World) (hT_ : Tab w) (h : strconv_Itoa.f a0 = some r) :
    Calls Tryd.prog 52 #[.int .i64 a0] w fun e w' => e = .returned (.string r) ∧ Below w.heap.size w w' := by
  unfold strconv_Itoa.f at h
  split at h
  · rename_i hc
    obtain rfl := Option.some.inj h
    refine (Tryd.strconv_Itoa a0 hc.1 hc.2 w hT_.f2).mono ?_
    rintro e w' ⟨rfl, k, os, rfl⟩
    exact ⟨rfl, below_grown_ _ k os⟩
  · cases h

/-! ### impl_insText: function 39 -/
def impl_insText.j0 : Nat → ByteArray → ByteArray → Int → Int → ByteArray → Int → Int → Option (ByteArray)
 | 0,_,_,_,_,_,_,_ => none
 | k + 1,x5,x176000,x176001,x176002,x181000,x181001,x181002 => (impl_insForm_many.f x181000 x181001 x181002).bind fun t183 => (if t183 > 1 then ((strconv_Itoa.f x176002).bind fun t184 => (if 1 + t184.size ≤ 9223372036854775807 then (if x5.size + ((⟨#[32]⟩ : ByteArray) ++ t184).size ≤ 9223372036854775807 then (some (x5 ++ ((⟨#[32]⟩ : ByteArray) ++ t184))) else (none)) else (none))) else (some x5))
def impl_insText.f (k : Nat) (a0_0 : ByteArray) (a0_1 : Int) (a0_2 : Int) : Option (ByteArray):=(impl_formOf.f k a0_0).bind fun bt176 => ((impl_insForm_many.f bt176.1 bt176.2.1 bt176.2.2.1).bind fun t181 => (if t181 > 0 then ((strconv_Itoa.f a0_1).bind fun t182 => (if 1 + t182.size ≤ 9223372036854775807 then (if a0_0.size + ((⟨#[32]⟩ : ByteArray) ++ t182).size ≤ 9223372036854775807 then (impl_insText.j0 k (a0_0 ++ ((⟨#[32]⟩ : ByteArray) ++ t182)) a0_0 a0_1 a0_2 bt176.1 bt176.2.1 bt176.2.2.1) else (none)) else (none))) else (impl_insText.j0 k a0_0 a0_0 a0_1 a0_2 bt176.1 bt176.2.1 bt176.2.2.1)))
theorem impl_insText.mono_l : ∀ k,(∀ y0 y1 y2 y3 y4 y5 y6,LeO (impl_insText.j0 k y0 y1 y2 y3 y4 y5 y6) (impl_insText.j0 (k + 1) y0 y1 y2 y3 y4 y5 y6))
 | 0 => fun _ _ _ _ _ _ _ r h => by simp [impl_insText.j0] at h
 | k + 1 => by
  have ih0:=impl_insText.mono_l k
  ·intro y0 y1 y2 y3 y4 y5 y6
   unfold impl_insText.j0
   repeat' first
   | (with_reducible exact ih0 _ _ _ _ _ _ _)
   | (with_reducible exact impl_formOf.mono _ _)
   | (with_reducible exact LeO.refl _)
   | (with_reducible exact LeO.none _)
   | (with_reducible refine LeO.ite ?_ ?_)
   | (with_reducible refine LeO.bind ?_ (fun _ => ?_))
   | exact ih0 _ _ _ _ _ _ _
   | exact impl_formOf.mono _ _
   | exact LeO.none _
   | refine LeO.ite ?_ ?_
   | refine LeO.bind ?_ (fun _ => ?_)
theorem impl_insText.mono : ∀ a0 a1 a2 k,LeO (impl_insText.f k a0 a1 a2) (impl_insText.f (k + 1) a0 a1 a2):=by
 intro a0 a1 a2 k
 have ih0:=impl_insText.mono_l k
 unfold impl_insText.f
 repeat' first
   | (with_reducible exact ih0 _ _ _ _ _ _ _)
   | (with_reducible exact impl_formOf.mono _ _)
   | (with_reducible exact LeO.refl _)
   | (with_reducible exact LeO.none _)
   | (with_reducible refine LeO.ite ?_ ?_)
   | (with_reducible refine LeO.bind ?_ (fun _ => ?_))
   | exact ih0 _ _ _ _ _ _ _
   | exact impl_formOf.mono _ _
   | exact LeO.none _
   | refine LeO.ite ?_ ?_
   | refine LeO.bind ?_ (fun _ => ?_)
set_option maxHeartbeats 8000000 in
set_option maxRecDepth 100000 in
theorem impl_insText.calls (k : Nat) (a0_0 : ByteArray) (a0_1 : Int) (a0_2 : Int) (r : ByteArray) (w : World) (hT_ : Tab w) (h : impl_insText.f k a0_0 a0_1 a0_2 = some r) :
  Calls Tryd.prog 39 #[.agg #[.string a0_0,.int .i64 a0_1,.int .i64 a0_2]] w fun e w' => e = .returned (.string r) ∧ Below w.heap.size w w':=by
 have hu26:=Tryd.underlying26
 have hu46:=Tryd.underlying46
 have HB:=Aside0.mk (Below.refl w.heap.size w)
 have H : ((impl_formOf.f k a0_0).bind fun bt176 => ((impl_insForm_many.f bt176.1 bt176.2.1 bt176.2.2.1).bind fun t181 => (if t181 > 0 then ((strconv_Itoa.f a0_1).bind fun t182 => (if 1 + t182.size ≤ 9223372036854775807 then (if a0_0.size + ((⟨#[32]⟩ : ByteArray) ++ t182).size ≤ 9223372036854775807 then (impl_insText.j0 k (a0_0 ++ ((⟨#[32]⟩ : ByteArray) ++ t182)) a0_0 a0_1 a0_2 bt176.1 bt176.2.1 bt176.2.2.1) else (none)) else (none))) else (impl_insText.j0 k a0_0 a0_0 a0_1 a0_2 bt176.1 bt176.2.1 bt176.2.2.1)))) = some r:=h
 clear h
 replace H:=Option.bind_eq_some_iff.mp H
 obtain ⟨⟨t176,t177,t178,t179⟩,A20,H⟩:=H
 replace H : ((impl_insForm_many.f t176 t177 t178).bind fun t181 => (if t181 > 0 then ((strconv_Itoa.f a0_1).bind fun t182 => (if 1 + t182.size ≤ 9223372036854775807 then (if a0_0.size + ((⟨#[32]⟩ : ByteArray) ++ t182).size ≤ 9223372036854775807 then (impl_insText.j0 k (a0_0 ++ ((⟨#[32]⟩ : ByteArray) ++ t182)) a0_0 a0_1 a0_2 t176 t177 t178) else (none)) else (none))) else (impl_insText.j0 k a0_0 a0_0 a0_1 a0_2 t176 t177 t178))) = some r:=H
 have A2:=Aside0.mk A20
 clear A20
 replace H:=Option.bind_eq_some_iff.mp H
 obtain ⟨t181,A30,H⟩:=H
 replace H : (if t181 > 0 then ((strconv_Itoa.f a0_1).bind fun t182 => (if 1 + t182.size ≤ 9223372036854775807 then (if a0_0.size + ((⟨#[32]⟩ : ByteArray) ++ t182).size ≤ 9223372036854775807 then (impl_insText.j0 k (a0_0 ++ ((⟨#[32]⟩ : ByteArray) ++ t182)) a0_0 a0_1 a0_2 t176 t177 t178) else (none)) else (none))) else (impl_insText.j0 k a0_0 a0_0 a0_1 a0_2 t176 t177 t178)) = some r:=H
 have A3:=Aside0.mk A30
 clear A30
 have HC4:=Aside0.mk H
 clear H
 go_enter Tryd.func39,Tryd.ntmps39
 go_upto_if 16 with (first | ((with_reducible refine gate_dst (N:=1) rfl ?_);refine Up.bx 1 26 #[.string a0_0,.int .i64 a0_1,.int .i64 a0_2] ?_;intro gb175 hg w5 hbox hb;have n0_:=Up.BB HB hb;have n1_:=Aside0.mk (hbox);have n2_:=Up.gw hg HB;have n3_:=Up.gw hg HB;clear HB;have HB:=n0_;have BK175:=n1_;have GW175:=n2_;have GE175:=n3_;clear n0_ n1_ n2_ n3_ hb hbox hg;have hcz6_0:=Up.c0 BK175;have hcz6_1:=Up.c1 BK175;have hcz6_2:=Up.c2 BK175;have hfz6_0:=blk_frozen BK175.out 0;have hfz6_1:=blk_frozen BK175.out 1;have hfz6_2:=blk_frozen BK175.out 2) | ((with_reducible refine gate_callee (f:=32) rfl ?_);refine Up.gl (some 9) Tryd.func32 #[.string a0_0] ?_;(with_reducible refine (impl_formOf.calls (hT_:=?tab1) k a0_0 t176 t177 t178 t179 _ A2.out).mono ?_);(case tab1 => exact hT_.below (Up.Bx HB));rintro e w7 ⟨rfl,hb⟩;refine ⟨_,rfl,?_⟩;have n0_:=Up.KB BK175 hb;have n1_:=Aside0.mk (below_step (Up.Bx HB) hb);clear BK175 HB;have BK175:=n0_;have HB:=n1_;clear n0_ n1_;(try clear hb);(try clear hb2);(try clear hk);(try clear hi)) | ((with_reducible refine gate_dst (N:=3) rfl ?_);refine Up.bx 3 46 #[.string (⟨#[]⟩ : ByteArray),.int .i64 0,.int .i64 0] ?_;intro gb180 hg w8 hbox hb;have n0_:=Up.KB BK175 hb;have n1_:=Aside0.mk (below_step (Up.Bx HB) hb);have n2_:=Aside0.mk (hbox);have n3_:=Up.gw hg HB;have n4_:=Up.gw hg HB;have n5_:=Up.nl hg BK175;have n6_:=Up.ng hg BK175;clear BK175 HB;have BK175:=n0_;have HB:=n1_;have BK180:=n2_;have GW180:=n3_;have GE180:=n4_;have NB175_180:=n5_;have NB180_175:=n6_;clear n0_ n1_ n2_ n3_ n4_ n5_ n6_ hb hbox hg;have hnb9:=NB180_175.out;have hnc9:=NB175_180.out;have hcz10_0:=Up.c0 BK180;have hcz10_1:=Up.c1 BK180;have hcz10_2:=Up.c2 BK180;have hfz10_0:=blk_frozen BK180.out 0;have hfz10_1:=blk_frozen BK180.out 1;have hfz10_2:=blk_frozen BK180.out 2;have hcz11_0:=Up.c0 BK175;have hcz11_1:=Up.c1 BK175;have hcz11_2:=Up.c2 BK175;have hfz11_0:=blk_frozen BK175.out 0;have hfz11_1:=blk_frozen BK175.out 1;have hfz11_2:=blk_frozen BK175.out 2) | ((with_reducible refine gate_callee (f:=48) rfl ?_);refine Up.gl (some 15) Tryd.func48 #[.agg #[.string t176,.int .i64 t177,.int .i64 t178]] ?_;(with_reducible refine (impl_insForm_many.calls t176 t177 t178 t181 _ A3.out).mono ?_);rintro e w12 ⟨rfl,hb⟩;refine ⟨_,rfl,?_⟩;have n0_:=Aside0.mk (blk_below (g:=gb175) (o:=.cells #[.string a0_0,.int .i64 a0_1,.int .i64 a0_2] 26 (0,0)) (Up.Kx BK175) hb);have n1_:=Aside0.mk (blk_below (g:=gb180) (o:=.cells #[.string t176,.int .i64 t177,.int .i64 t178] 46 (0,0)) (Up.Kx BK180) hb);have n2_:=Aside0.mk (below_step (Up.Bx HB) hb);clear BK175 BK180 HB;have BK175:=n0_;have BK180:=n1_;have HB:=n2_;clear n0_ n1_ n2_;(try clear hb);(try clear hb2);(try clear hk);(try clear hi)))
 (try simp only [Act.put,List.setIfInBounds_toArray,List.set_cons_zero,List.set_cons_succ])
 go_cut [5] (fun v5 wc => ∃ (kq : Nat) (x5_3 : ByteArray),v5 = .string x5_3 ∧ Aside0 (impl_insText.j0 kq x5_3 a0_0 a0_1 a0_2 t176 t177 t178 = some r) ∧ Aside0 (kq ≤ k) ∧ Aside0 (wc.heap[gb175]? = some (.cells #[.string a0_0,.int .i64 a0_1,.int .i64 a0_2] 26 (0,0))) ∧ Aside0 (wc.heap[gb180]? = some (.cells #[.string t176,.int .i64 t177,.int .i64 t178] 46 (0,0))) ∧ Aside0 (Below w.heap.size w wc))
 case first =>
  have H:=HC4.out
  clear HC4
  by_cases c13 : t181 > 0
  ·rw [if_pos c13] at H
   have c13b0 : decide (0 < t181) = true:=decide_eq_true c13
   clear c13
   (first | rw [c13b0] | (simp only [i64_w,i32_w];rw [c13b0]) | skip)
   replace H:=Option.bind_eq_some_iff.mp H
   obtain ⟨t182,A140,H⟩:=H
   replace H : (if 1 + t182.size ≤ 9223372036854775807 then (if a0_0.size + ((⟨#[32]⟩ : ByteArray) ++ t182).size ≤ 9223372036854775807 then (impl_insText.j0 k (a0_0 ++ ((⟨#[32]⟩ : ByteArray) ++ t182)) a0_0 a0_1 a0_2 t176 t177 t178) else (none)) else (none)) = some r:=H
   have A14:=Aside0.mk A140
   clear A140
   by_cases c15 : 1 + t182.size ≤ 9223372036854775807
   ·rw [if_pos c15] at H
    have c15b0:=eq_true c15
    have c15b1 : decide (1 + t182.size ≤ 9223372036854775807) = true:=decide_eq_true c15
    try have c15b2 : (9223372036854775807 < 1 + t182.size) = False:=eq_false (Nat.not_lt.2 c15)
    by_cases c16 : a0_0.size + ((⟨#[32]⟩ : ByteArray) ++ t182).size ≤ 9223372036854775807
    ·rw [if_pos c16] at H
     have hzc16_ : (9223372036854775807 < a0_0.size + (1 + t182.size)) = False:=eq_false (by have h_:=c16;simp only [ByteArray.size_append] at h_;have h0_ : (⟨#[32]⟩ : ByteArray).size = 1:=rfl;omega)
     have c16b0:=eq_true c16
     have c16b1 : decide (a0_0.size + ((⟨#[32]⟩ : ByteArray) ++ t182).size ≤ 9223372036854775807) = true:=decide_eq_true c16
     try have c16b2 : (9223372036854775807 < a0_0.size + ((⟨#[32]⟩ : ByteArray) ++ t182).size) = False:=eq_false (Nat.not_lt.2 c16)
     have H':=Aside0.mk H
     clear H
     have hnb17:=NB175_180.out
     have hnc17:=NB180_175.out
     have hcz18_0:=Up.c0 BK175
     have hcz18_1:=Up.c1 BK175
     have hcz18_2:=Up.c2 BK175
     have hfz18_0:=blk_frozen BK175.out 0
     have hfz18_1:=blk_frozen BK175.out 1
     have hfz18_2:=blk_frozen BK175.out 2
     go_wp2_with (first | ((with_reducible refine gate_callee (f:=52) rfl ?_);refine Up.gl (some 20) Tryd.func52 #[.int .i64 a0_1] ?_;(with_reducible refine (strconv_Itoa.calls (hT_:=?tab1) a0_1 t182 _ A14.out).mono ?_);(case tab1 => exact hT_.below (Up.Bx HB));rintro e w19 ⟨rfl,hb⟩;refine ⟨_,rfl,?_⟩;have n0_:=Up.KB BK175 hb;have n1_:=Up.KB BK180 hb;have n2_:=Aside0.mk (below_step (Up.Bx HB) hb);clear BK175 BK180 HB;have BK175:=n0_;have BK180:=n1_;have HB:=n2_;clear n0_ n1_ n2_;(try clear hb);(try clear hb2);(try clear hk);(try clear hi)))
     go_meet
     case rel => exact ⟨_,(a0_0 ++ ((⟨#[32]⟩ : ByteArray) ++ t182)),(by first | rfl | (simp;done) | (simp [*];done)),H',⟨by first | omega | exact Nat.le_refl _⟩,⟨by (with_reducible repeat (first | refine blk_drewN ?_ _ | refine blk_drew ?_ | refine blk_alloc ?_ _));exact BK175.out⟩,⟨by (with_reducible repeat (first | refine blk_drewN ?_ _ | refine blk_drew ?_ | refine blk_alloc ?_ _));exact BK180.out⟩,⟨Up.Bx HB⟩⟩
    ·rw [if_neg c16] at H
     exact absurd H (by simp)
   ·rw [if_neg c15] at H
    exact absurd H (by simp)
  ·rw [if_neg c13] at H
   have c13b0 : decide (0 < t181) = false:=decide_eq_false c13
   clear c13
   (first | rw [c13b0] | (simp only [i64_w,i32_w];rw [c13b0]) | skip)
   have H':=Aside0.mk H
   clear H
   go_wp2
   go_meet
   case rel => exact ⟨_,(a0_0),(by first | rfl | (simp;done) | (simp [*];done)),H',⟨by first | omega | exact Nat.le_refl _⟩,⟨by (with_reducible repeat (first | refine blk_drewN ?_ _ | refine blk_drew ?_ | refine blk_alloc ?_ _));exact BK175.out⟩,⟨by (with_reducible repeat (first | refine blk_drewN ?_ _ | refine blk_drew ?_ | refine blk_alloc ?_ _));exact BK180.out⟩,⟨Up.Bx HB⟩⟩
 case rest =>
  clear HC4
  try clear c1
  try clear p2
  try clear c3
  try clear c4
  try clear c5
  try clear c9
  try clear c13
  try clear c13b0
  try clear c15
  try clear c15b0
  try clear c15b1
  try clear c15b2
  try clear c16
  try clear c16b0
  try clear c16b1
  try clear c16b2
  try clear c17
  try clear hcz10_0
  try clear hcz10_1
  try clear hcz10_2
  try clear hcz11_0
  try clear hcz11_1
  try clear hcz11_2
  try clear hcz18_0
  try clear hcz18_1
  try clear hcz18_2
  try clear hcz6_0
  try clear hcz6_1
  try clear hcz6_2
  try clear hfz10_0
  try clear hfz10_1
  try clear hfz10_2
  try clear hfz11_0
  try clear hfz11_1
  try clear hfz11_2
  try clear hfz18_0
  try clear hfz18_1
  try clear hfz18_2
  try clear hfz6_0
  try clear hfz6_1
  try clear hfz6_2
  obtain ⟨kq,x5_3,rfl,HA,HJ3,BK175,BK180,HB⟩:=hcut
  cases kq with
  | zero => exact absurd HA.out (by simp [impl_insText.j0])
  | succ kj3 =>
   have H:=HA.out
   clear HA
   simp only [impl_insText.j0] at H
   replace H:=Option.bind_eq_some_iff.mp H
   obtain ⟨t183,A200,H⟩:=H
   replace H : (if t183 > 1 then ((strconv_Itoa.f a0_2).bind fun t184 => (if 1 + t184.size ≤ 9223372036854775807 then (if x5_3.size + ((⟨#[32]⟩ : ByteArray) ++ t184).size ≤ 9223372036854775807 then (some (x5_3 ++ ((⟨#[32]⟩ : ByteArray) ++ t184))) else (none)) else (none))) else (some x5_3)) = some r:=H
   have A20:=Aside0.mk A200
   clear A200
   by_cases c21 : t183 > 1
   ·rw [if_pos c21] at H
    have c21b0 : decide (1 < t183) = true:=decide_eq_true c21
    clear c21
    replace H:=Option.bind_eq_some_iff.mp H
    obtain ⟨t184,A220,H⟩:=H
    replace H : (if 1 + t184.size ≤ 9223372036854775807 then (if x5_3.size + ((⟨#[32]⟩ : ByteArray) ++ t184).size ≤ 9223372036854775807 then (some (x5_3 ++ ((⟨#[32]⟩ : ByteArray) ++ t184))) else (none)) else (none)) = some r:=H
    have A22:=Aside0.mk A220
    clear A220
    by_cases c23 : 1 + t184.size ≤ 9223372036854775807
    ·rw [if_pos c23] at H
     have c23b0:=eq_true c23
     have c23b1 : decide (1 + t184.size ≤ 9223372036854775807) = true:=decide_eq_true c23
     try have c23b2 : (9223372036854775807 < 1 + t184.size) = False:=eq_false (Nat.not_lt.2 c23)
     by_cases c24 : x5_3.size + ((⟨#[32]⟩ : ByteArray) ++ t184).size ≤ 9223372036854775807
     ·rw [if_pos c24] at H
      have hzc24_ : (9223372036854775807 < x5_3.size + (1 + t184.size)) = False:=eq_false (by have h_:=c24;simp only [ByteArray.size_append] at h_;have h0_ : (⟨#[32]⟩ : ByteArray).size = 1:=rfl;omega)
      have c24b0:=eq_true c24
      have c24b1 : decide (x5_3.size + ((⟨#[32]⟩ : ByteArray) ++ t184).size ≤ 9223372036854775807) = true:=decide_eq_true c24
      try have c24b2 : (9223372036854775807 < x5_3.size + ((⟨#[32]⟩ : ByteArray) ++ t184).size) = False:=eq_false (Nat.not_lt.2 c24)
      obtain rfl:=Option.some.inj H
      have hnb25:=NB180_175.out
      have hnc25:=NB175_180.out
      have hcz26_0:=Up.c0 BK180
      have hcz26_1:=Up.c1 BK180
      have hcz26_2:=Up.c2 BK180
      have hfz26_0:=blk_frozen BK180.out 0
      have hfz26_1:=blk_frozen BK180.out 1
      have hfz26_2:=blk_frozen BK180.out 2
      go_wp2_with (first | ((with_reducible refine gate_callee (f:=48) rfl ?_);refine Up.gl (some 24) Tryd.func48 #[.agg #[.string t176,.int .i64 t177,.int .i64 t178]] ?_;(with_reducible refine (impl_insForm_many.calls t176 t177 t178 t183 _ A20.out).mono ?_);rintro e w27 ⟨rfl,hb⟩;refine ⟨_,rfl,?_⟩;have n0_:=Up.KB BK175 hb;have n1_:=Up.KB BK180 hb;have n2_:=Aside0.mk (below_step (Up.Bx HB) hb);clear BK175 BK180 HB;have BK175:=n0_;have BK180:=n1_;have HB:=n2_;clear n0_ n1_ n2_;(try clear hb);(try clear hb2);(try clear hk);(try clear hi);have hcz28_0:=Up.c0 BK175;have hcz28_1:=Up.c1 BK175;have hcz28_2:=Up.c2 BK175;have hfz28_0:=blk_frozen BK175.out 0;have hfz28_1:=blk_frozen BK175.out 1;have hfz28_2:=blk_frozen BK175.out 2) | ((with_reducible refine gate_callee (f:=52) rfl ?_);refine Up.gl (some 29) Tryd.func52 #[.int .i64 a0_2] ?_;(with_reducible refine (strconv_Itoa.calls (hT_:=?tab1) a0_2 t184 _ A22.out).mono ?_);(case tab1 => exact hT_.below (Up.Bx HB));rintro e w29 ⟨rfl,hb⟩;refine ⟨_,rfl,?_⟩;have n0_:=Up.KB BK175 hb;have n1_:=Up.KB BK180 hb;have n2_:=Aside0.mk (below_step (Up.Bx HB) hb);clear BK175 BK180 HB;have BK175:=n0_;have BK180:=n1_;have HB:=n2_;clear n0_ n1_ n2_;(try clear hb);(try clear hb2);(try clear hk);(try clear hi)))
      go_ret
      exact Up.e1 (Up.Bx HB)
     ·rw [if_neg c24] at H
      exact absurd H (by simp)
    ·rw [if_neg c23] at H
     exact absurd H (by simp)
   ·rw [if_neg c21] at H
    have c21b0 : decide (1 < t183) = false:=decide_eq_false c21
    clear c21
    obtain rfl:=Option.some.inj H
    have hnb30:=NB180_175.out
    have hnc30:=NB175_180.out
    have hcz31_0:=Up.c0 BK180
    have hcz31_1:=Up.c1 BK180
    have hcz31_2:=Up.c2 BK180
    have hfz31_0:=blk_frozen BK180.out 0
    have hfz31_1:=blk_frozen BK180.out 1
    have hfz31_2:=blk_frozen BK180.out 2
    go_wp2_with (first | ((with_reducible refine gate_callee (f:=48) rfl ?_);refine Up.gl (some 24) Tryd.func48 #[.agg #[.string t176,.int .i64 t177,.int .i64 t178]] ?_;(with_reducible refine (impl_insForm_many.calls t176 t177 t178 t183 _ A20.out).mono ?_);rintro e w32 ⟨rfl,hb⟩;refine ⟨_,rfl,?_⟩;have n0_:=Up.KB BK175 hb;have n1_:=Up.KB BK180 hb;have n2_:=Aside0.mk (below_step (Up.Bx HB) hb);clear BK175 BK180 HB;have BK175:=n0_;have BK180:=n1_;have HB:=n2_;clear n0_ n1_ n2_;(try clear hb);(try clear hb2);(try clear hk);(try clear hi)))
    go_ret
    exact Up.e1 (Up.Bx HB)

/-! ### impl_InsText: function 23 -/
def impl_InsText.f (k : Nat) (a0_0 : ByteArray) (a0_1 : Int) (a0_2 : Int) : Option (ByteArray):=(impl_InsOk.f k a0_0 a0_1 a0_2).bind fun t186 => (if t186 = true then ((impl_insText.f k a0_0 a0_1 a0_2).bind fun t187 => (some t187)) else (some (⟨#[]⟩ : ByteArray)))
theorem impl_InsText.mono : ∀ a0 a1 a2 k,LeO (impl_InsText.f k a0 a1 a2) (impl_InsText.f (k + 1) a0 a1 a2):=by
 intro a0 a1 a2 k
 unfold impl_InsText.f
 repeat' first
   | (with_reducible exact impl_InsOk.mono _ _ _ _)
   | (with_reducible exact impl_insText.mono _ _ _ _)
   | (with_reducible exact LeO.refl _)
   | (with_reducible exact LeO.none _)
   | (with_reducible refine LeO.ite ?_ ?_)
   | (with_reducible refine LeO.bind ?_ (fun _ => ?_))
   | exact impl_InsOk.mono _ _ _ _
   | exact impl_insText.mono _ _ _ _
   | exact LeO.none _
   | refine LeO.ite ?_ ?_
   | refine LeO.bind ?_ (fun _ => ?_)
set_option maxHeartbeats 8000000 in
set_option maxRecDepth 100000 in
theorem impl_InsText.calls (k : Nat) (a0_0 : ByteArray) (a0_1 : Int) (a0_2 : Int) (r : ByteArray) (w : World) (hT_ : Tab w) (h : impl_InsText.f k a0_0 a0_1 a0_2 = some r) :
  Calls Tryd.prog 23 #[.agg #[.string a0_0,.int .i64 a0_1,.int .i64 a0_2]] w fun e w' => e = .returned (.string r) ∧ Below w.heap.size w w':=by
 have hu26:=Tryd.underlying26
 have HB:=Aside0.mk (Below.refl w.heap.size w)
 have H : ((impl_InsOk.f k a0_0 a0_1 a0_2).bind fun t186 => (if t186 = true then ((impl_insText.f k a0_0 a0_1 a0_2).bind fun t187 => (some t187)) else (some (⟨#[]⟩ : ByteArray)))) = some r:=h
 clear h
 replace H:=Option.bind_eq_some_iff.mp H
 obtain ⟨t186,A20,H⟩:=H
 replace H : (if t186 = true then ((impl_insText.f k a0_0 a0_1 a0_2).bind fun t187 => (some t187)) else (some (⟨#[]⟩ : ByteArray))) = some r:=H
 have A2:=Aside0.mk A20
 clear A20
 by_cases c3 : t186 = true
 ·subst c3
  have H1 : ((impl_insText.f k a0_0 a0_1 a0_2).bind fun t187 => (some t187)) = some r:=by rw [if_pos rfl] at H;exact H
  clear H
  have H:=H1
  clear H1
  replace H:=Option.bind_eq_some_iff.mp H
  obtain ⟨t187,A40,H⟩:=H
  replace H : (some t187) = some r:=H
  have A4:=Aside0.mk A40
  clear A40
  obtain rfl:=Option.some.inj H
  go_enter Tryd.func23,Tryd.ntmps23
  go_wp2_with (first | ((with_reducible refine gate_dst (N:=1) rfl ?_);refine Up.bx 1 26 #[.string a0_0,.int .i64 a0_1,.int .i64 a0_2] ?_;intro gb185 hg w5 hbox hb;have n0_:=Up.BB HB hb;have n1_:=Aside0.mk (hbox);have n2_:=Up.gw hg HB;have n3_:=Up.gw hg HB;clear HB;have HB:=n0_;have BK185:=n1_;have GW185:=n2_;have GE185:=n3_;clear n0_ n1_ n2_ n3_ hb hbox hg;have hcz6_0:=Up.c0 BK185;have hcz6_1:=Up.c1 BK185;have hcz6_2:=Up.c2 BK185;have hfz6_0:=blk_frozen BK185.out 0;have hfz6_1:=blk_frozen BK185.out 1;have hfz6_2:=blk_frozen BK185.out 2) | ((with_reducible refine gate_callee (f:=14) rfl ?_);refine Up.gl (some 4) Tryd.func14 #[.agg #[.string a0_0,.int .i64 a0_1,.int .i64 a0_2]] ?_;(with_reducible refine (impl_InsOk.calls (hT_:=?tab1) k a0_0 a0_1 a0_2 true _ A2.out).mono ?_);(case tab1 => exact hT_.below (Up.Bx HB));rintro e w7 ⟨rfl,hb⟩;refine ⟨_,rfl,?_⟩;have n0_:=Up.KB BK185 hb;have n1_:=Aside0.mk (below_step (Up.Bx HB) hb);clear BK185 HB;have BK185:=n0_;have HB:=n1_;clear n0_ n1_;(try clear hb);(try clear hb2);(try clear hk);(try clear hi);have hcz8_0:=Up.c0 BK185;have hcz8_1:=Up.c1 BK185;have hcz8_2:=Up.c2 BK185;have hfz8_0:=blk_frozen BK185.out 0;have hfz8_1:=blk_frozen BK185.out 1;have hfz8_2:=blk_frozen BK185.out 2) | ((with_reducible refine gate_callee (f:=39) rfl ?_);refine Up.gl (some 7) Tryd.func39 #[.agg #[.string a0_0,.int .i64 a0_1,.int .i64 a0_2]] ?_;(with_reducible refine (impl_insText.calls (hT_:=?tab1) k a0_0 a0_1 a0_2 t187 _ A4.out).mono ?_);(case tab1 => exact hT_.below (Up.Bx HB));rintro e w9 ⟨rfl,hb⟩;refine ⟨_,rfl,?_⟩;have n0_:=Up.KB BK185 hb;have n1_:=Aside0.mk (below_step (Up.Bx HB) hb);clear BK185 HB;have BK185:=n0_;have HB:=n1_;clear n0_ n1_;(try clear hb);(try clear hb2);(try clear hk);(try clear hi)))
  go_ret
  exact Up.e1 (Up.Bx HB)
 ·replace c3:=Bool.eq_false_iff.mpr c3
  subst c3
  have H1 : (some (⟨#[]⟩ : ByteArray)) = some r:=by rw [if_neg (show ¬ (false = true) by decide)] at H;exact H
  clear H
  have H:=H1
  clear H1
  obtain rfl:=Option.some.inj H
  go_enter Tryd.func23,Tryd.ntmps23
  go_wp2_with (first | ((with_reducible refine gate_dst (N:=1) rfl ?_);refine Up.bx 1 26 #[.string a0_0,.int .i64 a0_1,.int .i64 a0_2] ?_;intro gb185 hg w10 hbox hb;have n0_:=Up.BB HB hb;have n1_:=Aside0.mk (hbox);have n2_:=Up.gw hg HB;have n3_:=Up.gw hg HB;clear HB;have HB:=n0_;have BK185:=n1_;have GW185:=n2_;have GE185:=n3_;clear n0_ n1_ n2_ n3_ hb hbox hg;have hcz11_0:=Up.c0 BK185;have hcz11_1:=Up.c1 BK185;have hcz11_2:=Up.c2 BK185;have hfz11_0:=blk_frozen BK185.out 0;have hfz11_1:=blk_frozen BK185.out 1;have hfz11_2:=blk_frozen BK185.out 2) | ((with_reducible refine gate_callee (f:=14) rfl ?_);refine Up.gl (some 4) Tryd.func14 #[.agg #[.string a0_0,.int .i64 a0_1,.int .i64 a0_2]] ?_;(with_reducible refine (impl_InsOk.calls (hT_:=?tab1) k a0_0 a0_1 a0_2 false _ A2.out).mono ?_);(case tab1 => exact hT_.below (Up.Bx HB));rintro e w12 ⟨rfl,hb⟩;refine ⟨_,rfl,?_⟩;have n0_:=Up.KB BK185 hb;have n1_:=Aside0.mk (below_step (Up.Bx HB) hb);clear BK185 HB;have BK185:=n0_;have HB:=n1_;clear n0_ n1_;(try clear hb);(try clear hb2);(try clear hk);(try clear hi)))
  go_ret
  exact Up.e1 (Up.Bx HB)

/-- A state of type 70 at block g of W; what its slices lead to came in by w0. -/
def IsS70 (w0 W : World) (g : Nat) (f0 : List Int) (f1 : Int) : Prop:=∃ A0 c0,W.heap[g]? = some (.cells #[.slice A0 f0.length c0,.int .i64 f1] 70 (0,0)) ∧ w0.heap.size ≤ g ∧ Kd.C (Kd.int .u8) w0 A0 f0.length f0
theorem IsS70.grown {w0 W : World} {g : Nat} {f0 : List Int} {f1 : Int} {W1 : World} {row : Option Nat} (h : IsS70 w0 W g f0 f1) (hw : W.grownBy W1 row) (hne : some g ≠ row) : IsS70 w0 W1 g f0 f1:=by
 obtain ⟨A0,c0,hb,hg,hr0⟩:=h
 exact ⟨A0,c0,blk_grown hb hw hne,hg,hr0⟩
theorem IsS70.own_neN {w0 W : World} {g : Nat} {f0 : List Int} {f1 : Int} {α : Type} {d : Kd α} {e : Nat} {base : Nat} {ok : Nat → Prop} {v : Value} {xs : List α} (h : IsS70 w0 W g f0 f1) (ho : Kd.N d e W base ok v xs) (ht : e ≠ 70) : some g ≠ v.ownBlock:=by
 obtain ⟨A0,c0,hb,hg,hr0⟩:=h
 exact Kd.N_ne ho hb ht
theorem IsS70.fresh {w0 W : World} {g : Nat} {f0 : List Int} {f1 : Int} (h : IsS70 w0 W g f0 f1) : ∀ k,W.heap.size ≤ k → k ≠ g:=by
 obtain ⟨A0,c0,hb,hg,hr0⟩:=h
 exact Kd.freshB hb
theorem IsS70.kept {w0 W : World} {g : Nat} {f0 : List Int} {f1 : Int} {W1 : World} {S : Nat → Prop} (h : IsS70 w0 W g f0 f1) (hk : Kept W W1 S) (hne : ¬ S g) : IsS70 w0 W1 g f0 f1:=by
 obtain ⟨A0,c0,hb,hg,hr0⟩:=h
 exact ⟨A0,c0,blk_kept hb hk hne,hg,hr0⟩
theorem IsS70.below {w0 W : World} {g : Nat} {f0 : List Int} {f1 : Int} {W1 : World} (h : IsS70 w0 W g f0 f1) (hw : Below W.heap.size W W1) : IsS70 w0 W1 g f0 f1:=h.grown (grown_of_below hw none) (by simp)
theorem IsS70.alloc {w0 W : World} {g : Nat} {f0 : List Int} {f1 : Int} (h : IsS70 w0 W g f0 f1) (o : Obj) : IsS70 w0 (W.alloc o) g f0 f1:=h.below (below_alloc (Below.refl _ _) o)
theorem IsS70.drewN {w0 W : World} {g : Nat} {f0 : List Int} {f1 : Int} (h : IsS70 w0 W g f0 f1) (m : Nat) : IsS70 w0 (W.drewN m) g f0 f1:=h
theorem IsS70.drew {w0 W : World} {g : Nat} {f0 : List Int} {f1 : Int} (h : IsS70 w0 W g f0 f1) : IsS70 w0 W.drew g f0 f1:=h
theorem IsS70.at_ {w0 W : World} {g : Nat} {f0 : List Int} {f1 : Int} {w' : World} {m : Nat} (hq : W.drewN m = w') (h : IsS70 w0 W g f0 f1) : IsS70 w0 w' g f0 f1:=by subst hq;exact IsS70.drewN h m
theorem IsS70.apart {w0 W : World} {g : Nat} {f0 : List Int} {f1 : Int} {α : Type} {d : Kd α} {e : Nat} {base : Nat} {ok : Nat → Prop} {v : Value} {xs : List α} (h : IsS70 w0 W g f0 f1) (ho : d.R e W base ok v xs) (ht : ∀ q,q ∈ e :: d.E → q ≠ 70) : d.R e W base (fun k => ok k ∧ k ≠ g) v xs:=by
 obtain ⟨A0,c0,hb,hg,hr0⟩:=h
 exact Kd.R_types ho hb ht
theorem IsS70.own_ne {w0 W : World} {g : Nat} {f0 : List Int} {f1 : Int} {α : Type} {d : Kd α} {e : Nat} {base : Nat} {ok : Nat → Prop} {v : Value} {xs : List α} (h : IsS70 w0 W g f0 f1) (ho : d.R e W base ok v xs) (ht : e ≠ 70) : some g ≠ v.ownBlock:=by
 obtain ⟨A0,c0,hb,hg,hr0⟩:=h
 exact Kd.R_ne ho hb ht
theorem IsS70.apartQ {w0 W : World} {g : Nat} {f0 : List Int} {f1 : Int} {α : Type} {d : Kd α} {e : Nat} {base : Nat} {ok : Nat → Prop} {v : Value} {xs : List α} (h : IsS70 w0 W g f0 f1) (ho : d.Q e W base ok v xs) (ht : ∀ q,q ∈ e :: d.E → q ≠ 70) : d.Q e W base (fun k => ok k ∧ k ≠ g) v xs:=by
 obtain ⟨A0,c0,hb,hg,hr0⟩:=h
 exact Kd.Q_types ho hb ht
theorem IsS70.own_neQ {w0 W : World} {g : Nat} {f0 : List Int} {f1 : Int} {α : Type} {d : Kd α} {e : Nat} {base : Nat} {ok : Nat → Prop} {v : Value} {xs : List α} (h : IsS70 w0 W g f0 f1) (ho : d.Q e W base ok v xs) (ht : e ≠ 70) : some g ≠ v.ownBlock:=by
 obtain ⟨A0,c0,hb,hg,hr0⟩:=h
 exact Kd.Q_ne ho hb ht
theorem IsS70.apartS {w0 W : World} {g : Nat} {f0 : List Int} {f1 : Int} {α : Type} {d : Kd α} {e : Nat} {base : Nat} {ok : Nat → Prop} {v : Value} {xs : List α} (h : IsS70 w0 W g f0 f1) (ho : d.S e W base ok v xs) (ht : ∀ q,q ∈ e :: d.E → q ≠ 70) : d.S e W base (fun k => ok k ∧ k ≠ g) v xs:=by
 obtain ⟨A0,c0,hb,hg,hr0⟩:=h
 exact Kd.S_types ho hb ht
theorem IsS70.own_neS {w0 W : World} {g : Nat} {f0 : List Int} {f1 : Int} {α : Type} {d : Kd α} {e : Nat} {base : Nat} {ok : Nat → Prop} {v : Value} {xs : List α} (h : IsS70 w0 W g f0 f1) (ho : d.S e W base ok v xs) (ht : e ≠ 70) : some g ≠ v.ownBlock:=by
 obtain ⟨A0,c0,hb,hg,hr0⟩:=h
 exact Kd.S_ne ho hb ht
theorem IsS70.lt {w0 W : World} {g : Nat} {f0 : List Int} {f1 : Int} (h : IsS70 w0 W g f0 f1) : g < W.heap.size:=by
 obtain ⟨A0,c0,hb,hg,hr0⟩:=h
 exact blk_lt hb
theorem IsS70.ge {w0 W : World} {g : Nat} {f0 : List Int} {f1 : Int} (h : IsS70 w0 W g f0 f1) : w0.heap.size ≤ g:=by
 obtain ⟨A0,c0,hb,hg,hr0⟩:=h
 exact hg
theorem IsS70.ne_blk {w0 W : World} {g : Nat} {f0 : List Int} {f1 : Int} {a : Nat} {cs : Array Value} {t : TypeId} {fr : Nat × Nat} (h : IsS70 w0 W g f0 f1) (hb2 : W.heap[a]? = some (.cells cs t fr)) (ht : t ≠ 70) : g ≠ a:=by
 obtain ⟨A0,c0,hb,hg,hr0⟩:=h
 rintro rfl
 rw [hb] at hb2
 injection hb2 with hb2
 injection hb2 with _ ht2
 exact ht ht2.symm
theorem IsS70.far {w0 W : World} {g : Nat} {f0 : List Int} {f1 : Int} {p : Addr} (h : IsS70 w0 W g f0 f1) (hne : g ≠ p.block) (u : Value) : IsS70 w0 (W.setCell p u) g f0 f1:=by
 obtain ⟨A0,c0,hb,hg,hr0⟩:=h
 exact ⟨A0,c0,blk_far hb hne u,hg,hr0⟩
theorem cellS70_0 {W : World} {g : Nat} {A0 : Option Addr} {c0 : Nat} {f0 : List Int} {f1 : Int} (h : W.heap[g]? = some (.cells #[.slice A0 f0.length c0,.int .i64 f1] 70 (0,0))) : W.cell? ⟨g,0,none⟩ = some (.slice A0 f0.length c0):=(blk_cell h 0).trans rfl
theorem cellS70_1 {W : World} {g : Nat} {A0 : Option Addr} {c0 : Nat} {f0 : List Int} {f1 : Int} (h : W.heap[g]? = some (.cells #[.slice A0 f0.length c0,.int .i64 f1] 70 (0,0))) : W.cell? ⟨g,1,none⟩ = some (.int .i64 f1):=(blk_cell h 1).trans rfl
theorem IsS70.set_1 {w0 W : World} {g : Nat} {f0 : List Int} {f1 : Int} (h : IsS70 w0 W g f0 f1) (x : Int) : IsS70 w0 (W.setCell ⟨g,1,none⟩ (.int .i64 x)) g f0 x:=by
 obtain ⟨A0,c0,hb,hg,hr0⟩:=h
 exact ⟨A0,c0,by simpa using blk_set hb 1 (.int .i64 x),hg,hr0⟩
theorem IsS70.new (w0 W : World) (A0 : Option Addr) (c0 : Nat) (f0 : List Int) (f1 : Int) (hB : Below w0.heap.size w0 W) (hr0 : Kd.C (Kd.int .u8) w0 A0 f0.length f0) : IsS70 w0 (W.alloc (.cells #[.slice A0 f0.length c0,.int .i64 f1] 70)) W.heap.size f0 f1:=⟨A0,c0,by simpa using heap_alloc_new W _,hB.size,hr0⟩

theorem Ip0 {P Q : Prop} (h : Aside0 P) (hs : P → Q := by intro h; repeat (first | (with_reducible first | exact h | apply IsS70.alloc | apply IsS70.drewN | apply IsS70.drew | apply IsS70.set_1) | exact h)) : Q := hs h.out
theorem Ip1 {P Q R : Prop} (h : Aside0 P) (h2 : Aside0 R) (hs : P → R → Q := by intro h h2; repeat (first | (with_reducible first | exact h | apply IsS70.alloc | apply IsS70.drewN | apply IsS70.drew | apply IsS70.set_1 | refine IsS70.far ?_ h2 _) | exact h)) : Q := hs h.out h2.out
/-! ### spec_l6Open: function 40 -/
def spec_l6Open.f (l0 : List Int) : Option (List Int × Int):=if (l0.length : Int) > 2000 then (if 2000 ≤ (l0.length : Int) then (some (l0.take 2000,0)) else (none)) else (some (l0,0))
set_option maxHeartbeats 8000000 in
set_option maxRecDepth 100000 in
theorem spec_l6Open.calls (A0 : Option Addr) (c0 : Nat) (l0 : List Int) (r1 : List Int) (r2 : Int) (w0 w : World) (hB : Below w0.heap.size w0 w) (hr0 : Kd.C (Kd.int .u8) w0 A0 l0.length l0) (hc0 : l0.length ≤ c0) (h : spec_l6Open.f l0 = some (r1,r2)) :
  Calls Tryd.prog 40 #[.slice A0 l0.length c0] w fun e w' => ∃ g_ : Nat,e = .returned (.pointer (some ⟨g_,0,none⟩)) ∧ IsS70 w0 w' g_ r1 r2 ∧ Below w0.heap.size w0 w' ∧ Below w.heap.size w w':=by
 have hu70:=Tryd.underlying70
 have HR0:=Aside0.mk hr0
 have HC0:=Aside0.mk hc0
 clear hr0 hc0
 have HBW:=Aside0.mk (Below.refl w.heap.size w)
 have HW0:=Aside0.mk hB.size
 have HB:=Aside0.mk hB
 clear hB
 have H : (if (l0.length : Int) > 2000 then (if 2000 ≤ (l0.length : Int) then (some (l0.take 2000,0)) else (none)) else (some (l0,0))) = some (r1,r2):=h
 clear h
 by_cases c2 : (l0.length : Int) > 2000
 ·rw [if_pos c2] at H
  have c2b0 : decide (2000 < (l0.length : Int)) = true:=decide_eq_true c2
  have c2b1 : decide (2000 < l0.length) = true:=decide_eq_true (by omega)
  clear c2
  by_cases c3 : 2000 ≤ (l0.length : Int)
  ·rw [if_pos c3] at H
   have c3b0:=eq_true c3
   have c3b1 : decide (2000 ≤ (l0.length : Int)) = true:=decide_eq_true c3
   clear c3
   simp only [Option.some.injEq,Prod.mk.injEq] at H
   obtain ⟨rfl,rfl⟩:=H
   obtain ⟨i04,hi04,_,hsz4,_⟩:=info_parts info5
   obtain ⟨hcut4,hA4,hC4⟩:=print_take_of (P:=Tryd.prog) (Value.int .u8) 0 29 5 .i64 Tryd.underlying29 hi04 hsz4 A0 c0 l0 2000 (by omega) (Up.od) HC0.out
   have HR188:=Aside0.mk (Kd.C_of_reads (h1:=fun _ => rfl) (hA4 _ (Kd.reads_of_C HR0.out)))
   have HC188:=Aside0.mk hC4
   clear hA4 hC4 hi04 hsz4
   go_enter Tryd.func40,Tryd.ntmps40
   go_wp2_with (first | ((with_reducible refine gate_dst (N:=10) rfl ?_);refine Up.bx 10 70 #[.slice A0 (l0.take 2000).length c0,.int .i64 0] ?_;intro gb189 hg w5 hbox hb;have n0_:=Aside0.mk (below_step HBW.out hb);have n1_:=Up.BB HB hb;have n2_:=Aside0.mk (hbox);have n3_:=Up.gw hg HBW;have n4_:=Aside0.mk ((Nat.le_trans HW0.out (by rw [hg];exact (below_size (Up.Bx HBW)) : w.heap.size ≤ gb189) : w0.heap.size ≤ gb189));clear HBW HB;have HBW:=n0_;have HB:=n1_;have BK189:=n2_;have GW189:=n3_;have GE189:=n4_;clear n0_ n1_ n2_ n3_ n4_ hb hbox hg))
   go_ret
   exact ⟨_,rfl,(show IsS70 w0 _ gb189 (l0.take 2000) 0 from ⟨_,_,by (with_reducible repeat (first | refine blk_drewN ?_ _ | refine blk_drew ?_ | refine blk_alloc ?_ _));exact BK189.out,GE189.out,HR188.out⟩),Up.Bx HB,by repeat (first | (with_reducible first | exact HBW.out | apply below_alloc | apply pw_below_drewN | apply below_drew1 | refine below_set ?_ GW189.out) | exact HBW.out)⟩
  ·rw [if_neg c3] at H
   exact absurd H (by simp)
 ·rw [if_neg c2] at H
  have c2b0 : decide (2000 < (l0.length : Int)) = false:=decide_eq_false c2
  have c2b1 : decide (2000 < l0.length) = false:=decide_eq_false (by omega)
  clear c2
  simp only [Option.some.injEq,Prod.mk.injEq] at H
  obtain ⟨rfl,rfl⟩:=H
  go_enter Tryd.func40,Tryd.ntmps40
  go_wp2_with (first | ((with_reducible refine gate_dst (N:=10) rfl ?_);refine Up.bx 10 70 #[.slice A0 l0.length c0,.int .i64 0] ?_;intro gb190 hg w6 hbox hb;have n0_:=Aside0.mk (below_step HBW.out hb);have n1_:=Up.BB HB hb;have n2_:=Aside0.mk (hbox);have n3_:=Up.gw hg HBW;have n4_:=Aside0.mk ((Nat.le_trans HW0.out (by rw [hg];exact (below_size (Up.Bx HBW)) : w.heap.size ≤ gb190) : w0.heap.size ≤ gb190));clear HBW HB;have HBW:=n0_;have HB:=n1_;have BK190:=n2_;have GW190:=n3_;have GE190:=n4_;clear n0_ n1_ n2_ n3_ n4_ hb hbox hg))
  go_ret
  exact ⟨_,rfl,(show IsS70 w0 _ gb190 l0 0 from ⟨_,_,by (with_reducible repeat (first | refine blk_drewN ?_ _ | refine blk_drew ?_ | refine blk_alloc ?_ _));exact BK190.out,GE190.out,HR0.out⟩),Up.Bx HB,by repeat (first | (with_reducible first | exact HBW.out | apply below_alloc | apply pw_below_drewN | apply below_drew1 | refine below_set ?_ GW190.out) | exact HBW.out)⟩

/-! ### spec_l6Rd_pick: function 42 -/
def spec_l6Rd_pick.j0 : Nat → Int → Bool → List Int → Int → Option (Int × Int)
 | 0,_,_,_,_ => none
 | k + 1,x1,x24,x1000,x1001 => if x24 = true then (some (0,x1001)) else (if (wrap64 (x1001 - 1)) < (x1000.length : Int) then (if 0 ≤ (wrap64 (x1001 - 1)) then (if x1 = 0 then (none) else (some (Int.tmod (wrap64 (rd x1000 (wrap64 (x1001 - 1)))) x1,x1001))) else (none)) else (if (x1000.length : Int) = 0 then (none) else (if 0 ≤ (Int.tmod (wrap64 (x1001 - 1)) (x1000.length : Int)) then (if (Int.tmod (wrap64 (x1001 - 1)) (x1000.length : Int)) < (x1000.length : Int) then (if 0 ≤ (Int.tmod (wrap64 ((wrap64 ((wrap64 (x1001 - 1)) * 7)) + 3)) (x1000.length : Int)) then (if (Int.tmod (wrap64 ((wrap64 ((wrap64 (x1001 - 1)) * 7)) + 3)) (x1000.length : Int)) < (x1000.length : Int) then (if x1 = 0 then (none) else (some (Int.tmod (Go.bits .xor .i64 (wrap64 ((wrap64 ((wrap64 ((wrap64 ((wrap64 (rd x1000 (Int.tmod (wrap64 (x1001 - 1)) (x1000.length : Int)))) * 131)) + (wrap64 ((wrap64 (rd x1000 (Int.tmod (wrap64 ((wrap64 ((wrap64 (x1001 - 1)) * 7)) + 3)) (x1000.length : Int)))) * 1117)))) + (wrap64 ((wrap64 (x1001 - 1)) * 29)))) + (wrap64 ((wrap64 (Int.tdiv (wrap64 (x1001 - 1)) (x1000.length : Int))) * 53)))) (wrap64 (Int.tdiv (wrap64 ((wrap64 ((wrap64 ((wrap64 ((wrap64 (rd x1000 (Int.tmod (wrap64 (x1001 - 1)) (x1000.length : Int)))) * 131)) + (wrap64 ((wrap64 (rd x1000 (Int.tmod (wrap64 ((wrap64 ((wrap64 (x1001 - 1)) * 7)) + 3)) (x1000.length : Int)))) * 1117)))) + (wrap64 ((wrap64 (x1001 - 1)) * 29)))) + (wrap64 ((wrap64 (Int.tdiv (wrap64 (x1001 - 1)) (x1000.length : Int))) * 53)))) 64))) x1,x1001))) else (none)) else (none)) else (none)) else (none))))
def spec_l6Rd_pick.f (k : Nat) (s0_0 : List Int) (s0_1 : Int) (a1 : Int) : Option (Int × Int):=if a1 < 1 then (spec_l6Rd_pick.j0 k a1 true s0_0 (wrap64 (s0_1 + 1))) else (spec_l6Rd_pick.j0 k a1 ((s0_0.length : Int) == 0) s0_0 (wrap64 (s0_1 + 1)))
theorem spec_l6Rd_pick.mono_l : ∀ k,(∀ y0 y1 y2 y3,LeO (spec_l6Rd_pick.j0 k y0 y1 y2 y3) (spec_l6Rd_pick.j0 (k + 1) y0 y1 y2 y3))
 | 0 => fun _ _ _ _ r h => by simp [spec_l6Rd_pick.j0] at h
 | k + 1 => by
  have ih0:=spec_l6Rd_pick.mono_l k
  ·intro y0 y1 y2 y3
   unfold spec_l6Rd_pick.j0
   repeat' first
   | (with_reducible exact ih0 _ _ _ _)
   | (with_reducible exact LeO.refl _)
   | (with_reducible exact LeO.none _)
   | (with_reducible refine LeO.ite ?_ ?_)
   | (with_reducible refine LeO.bind ?_ (fun _ => ?_))
   | exact ih0 _ _ _ _
   | exact LeO.none _
   | refine LeO.ite ?_ ?_
   | refine LeO.bind ?_ (fun _ => ?_)
theorem spec_l6Rd_pick.mono : ∀ a0 a1 a2 k,LeO (spec_l6Rd_pick.f k a0 a1 a2) (spec_l6Rd_pick.f (k + 1) a0 a1 a2):=by
 intro a0 a1 a2 k
 have ih0:=spec_l6Rd_pick.mono_l k
 unfold spec_l6Rd_pick.f
 repeat' first
   | (with_reducible exact ih0 _ _ _ _)
   | (with_reducible exact LeO.refl _)
   | (with_reducible exact LeO.none _)
   | (with_reducible refine LeO.ite ?_ ?_)
   | (with_reducible refine LeO.bind ?_ (fun _ => ?_))
   | exact ih0 _ _ _ _
   | exact LeO.none _
   | refine LeO.ite ?_ ?_
   | refine LeO.bind ?_ (fun _ => ?_)
set_option maxHeartbeats 8000000 in
set_option maxRecDepth 100000 in
theorem spec_l6Rd_pick.calls (k : Nat) (g : Nat) (s0_0 : List Int) (s0_1 : Int) (a1 : Int) (r1 : Int) (r2 : Int) (w0 w : World) (hI : IsS70 w0 w g s0_0 s0_1) (hB : Below w0.heap.size w0 w) (h : spec_l6Rd_pick.f k s0_0 s0_1 a1 = some (r1,r2)) :
  Calls Tryd.prog 42 #[.pointer (some ⟨g,0,none⟩),.int .i64 a1] w fun e w' => e = .returned (.int .i64 r1) ∧ IsS70 w0 w' g s0_0 r2 ∧ Below w0.heap.size w0 w' ∧ KeepBut w w' g none:=by
 have HI0:=Aside0.mk hI
 have HK:=Aside0.mk (KeepBut.refl w g none)
 have HL:=Aside0.mk hB.size
 clear hI
 have HW0:=Aside0.mk hB.size
 have HB:=Aside0.mk hB
 clear hB
 have H : (if a1 < 1 then (spec_l6Rd_pick.j0 k a1 true s0_0 (wrap64 (s0_1 + 1))) else (spec_l6Rd_pick.j0 k a1 ((s0_0.length : Int) == 0) s0_0 (wrap64 (s0_1 + 1)))) = some (r1,r2):=h
 clear h
 have HC3:=Aside0.mk H
 clear H
 obtain ⟨ASz4_0,cSz4_0,HGz4,hgz4,HSz4_0⟩:=HI0.out
 have hcz4_0:=cellS70_0 HGz4
 have hcz4_1:=cellS70_1 HGz4
 have hfz4_1:=blk_frozen HGz4 1
 clear HGz4 hgz4
 go_enter Tryd.func42,Tryd.ntmps42
 go_upto_region 2 with (fail)
 repeat (go_quiet (fail);go_upto_region 2 with (fail))
 go_cut [24] (fun v24 wc => ∃ (kq : Nat) (x24_2 : Bool),v24 = .bool x24_2 ∧ Aside0 (spec_l6Rd_pick.j0 kq a1 x24_2 s0_0 (wrap64 (s0_1 + 1)) = some (r1,r2)) ∧ Aside0 (kq ≤ k) ∧ Aside0 (IsS70 w0 wc g s0_0 (wrap64 (s0_1 + 1))) ∧ Aside0 (KeepBut w wc g none) ∧ Aside0 (Below w0.heap.size w0 wc))
 case first =>
  have H:=HC3.out
  clear HC3
  by_cases c5 : a1 < 1
  ·rw [if_pos c5] at H
   have c5b0 : decide (a1 < 1) = true:=decide_eq_true c5
   clear c5
   (first | rw [c5b0] | (simp only [i64_w,i32_w];rw [c5b0]) | skip)
   have H':=Aside0.mk H
   clear H
   go_wp2
   repeat (go_quiet (fail);try go_wp2)
   go_meet
   case rel => exact ⟨_,(true),(by first | rfl | (simp;done) | (simp [*];done)),H',⟨by first | omega | exact Nat.le_refl _⟩,⟨by repeat (first | (with_reducible first | exact HI0.out | apply IsS70.alloc | apply IsS70.drewN | apply IsS70.drew | apply IsS70.set_1) | exact HI0.out)⟩,⟨by repeat (first | (with_reducible first | exact HK.out | apply KeepBut.set_ | apply keep_drewN | apply keep_drew | apply keep_alloc) | exact HK.out)⟩,⟨by repeat (first | (with_reducible first | exact HB.out | apply below_alloc | apply pw_below_drewN | apply below_drew1 | refine below_set ?_ (IsS70.ge HI0.out)) | exact HB.out)⟩⟩
  ·rw [if_neg c5] at H
   have c5b0 : decide (a1 < 1) = false:=decide_eq_false c5
   clear c5
   (first | rw [c5b0] | (simp only [i64_w,i32_w];rw [c5b0]) | skip)
   have H':=Aside0.mk H
   clear H
   obtain ⟨ASz6_0,cSz6_0,HGz6,hgz6,HSz6_0⟩:=HI0.out
   have hcz6_0:=cellS70_0 HGz6
   have hcz6_1:=cellS70_1 HGz6
   have hfz6_1:=blk_frozen HGz6 1
   clear HGz6 hgz6
   go_wp2
   repeat (go_quiet (fail);try go_wp2)
   go_meet
   case rel => exact ⟨_,(((s0_0.length : Int) == 0)),(by first | rfl | (simp;done) | (simp [*];done)),H',⟨by first | omega | exact Nat.le_refl _⟩,⟨by repeat (first | (with_reducible first | exact HI0.out | apply IsS70.alloc | apply IsS70.drewN | apply IsS70.drew | apply IsS70.set_1) | exact HI0.out)⟩,⟨by repeat (first | (with_reducible first | exact HK.out | apply KeepBut.set_ | apply keep_drewN | apply keep_drew | apply keep_alloc) | exact HK.out)⟩,⟨by repeat (first | (with_reducible first | exact HB.out | apply below_alloc | apply pw_below_drewN | apply below_drew1 | refine below_set ?_ (IsS70.ge HI0.out)) | exact HB.out)⟩⟩
 case rest =>
  clear HC3
  try clear p2
  try clear c4
  try clear c5
  try clear c5b0
  try clear p6
  try clear hcz4_0
  try clear hcz4_1
  try clear hcz6_0
  try clear hcz6_1
  try clear hfz4_1
  try clear hfz6_1
  obtain ⟨kq,x24_2,rfl,HA,HJ2,HI0,HK,HB⟩:=hcut
  cases kq with
  | zero => exact absurd HA.out (by simp [spec_l6Rd_pick.j0])
  | succ kj2 =>
   have H:=HA.out
   clear HA
   simp only [spec_l6Rd_pick.j0] at H
   by_cases c7 : x24_2 = true
   ·subst c7
    have H1 : (some (0,(wrap64 (s0_1 + 1)))) = some (r1,r2):=by rw [if_pos rfl] at H;exact H
    clear H
    have H:=H1
    clear H1
    simp only [Option.some.injEq,Prod.mk.injEq] at H
    obtain ⟨rfl,rfl⟩:=H
    go_wp2
    repeat (go_quiet (fail);try go_wp2)
    go_ret
    exact ⟨by first | rfl | (simp [errW_none,errW_some] <;> rfl) | (simp [*,errW_none,errW_some] <;> rfl),by repeat (first | (with_reducible first | exact HI0.out | apply IsS70.alloc | apply IsS70.drewN | apply IsS70.drew | apply IsS70.set_1) | exact HI0.out),by repeat (first | (with_reducible first | exact HB.out | apply below_alloc | apply pw_below_drewN | apply below_drew1 | refine below_set ?_ (IsS70.ge HI0.out)) | exact HB.out),by repeat (first | (with_reducible first | exact HK.out | apply KeepBut.set_ | apply keep_drewN | apply keep_drew | apply keep_alloc) | exact HK.out)⟩
   ·replace c7:=Bool.eq_false_iff.mpr c7
    subst c7
    have H1 : (if (wrap64 ((wrap64 (s0_1 + 1)) - 1)) < (s0_0.length : Int) then (if 0 ≤ (wrap64 ((wrap64 (s0_1 + 1)) - 1)) then (if a1 = 0 then (none) else (some (Int.tmod (wrap64 (rd s0_0 (wrap64 ((wrap64 (s0_1 + 1)) - 1)))) a1,(wrap64 (s0_1 + 1))))) else (none)) else (if (s0_0.length : Int) = 0 then (none) else (if 0 ≤ (Int.tmod (wrap64 ((wrap64 (s0_1 + 1)) - 1)) (s0_0.length : Int)) then (if (Int.tmod (wrap64 ((wrap64 (s0_1 + 1)) - 1)) (s0_0.length : Int)) < (s0_0.length : Int) then (if 0 ≤ (Int.tmod (wrap64 ((wrap64 ((wrap64 ((wrap64 (s0_1 + 1)) - 1)) * 7)) + 3)) (s0_0.length : Int)) then (if (Int.tmod (wrap64 ((wrap64 ((wrap64 ((wrap64 (s0_1 + 1)) - 1)) * 7)) + 3)) (s0_0.length : Int)) < (s0_0.length : Int) then (if a1 = 0 then (none) else (some (Int.tmod (Go.bits .xor .i64 (wrap64 ((wrap64 ((wrap64 ((wrap64 ((wrap64 (rd s0_0 (Int.tmod (wrap64 ((wrap64 (s0_1 + 1)) - 1)) (s0_0.length : Int)))) * 131)) + (wrap64 ((wrap64 (rd s0_0 (Int.tmod (wrap64 ((wrap64 ((wrap64 ((wrap64 (s0_1 + 1)) - 1)) * 7)) + 3)) (s0_0.length : Int)))) * 1117)))) + (wrap64 ((wrap64 ((wrap64 (s0_1 + 1)) - 1)) * 29)))) + (wrap64 ((wrap64 (Int.tdiv (wrap64 ((wrap64 (s0_1 + 1)) - 1)) (s0_0.length : Int))) * 53)))) (wrap64 (Int.tdiv (wrap64 ((wrap64 ((wrap64 ((wrap64 ((wrap64 (rd s0_0 (Int.tmod (wrap64 ((wrap64 (s0_1 + 1)) - 1)) (s0_0.length : Int)))) * 131)) + (wrap64 ((wrap64 (rd s0_0 (Int.tmod (wrap64 ((wrap64 ((wrap64 ((wrap64 (s0_1 + 1)) - 1)) * 7)) + 3)) (s0_0.length : Int)))) * 1117)))) + (wrap64 ((wrap64 ((wrap64 (s0_1 + 1)) - 1)) * 29)))) + (wrap64 ((wrap64 (Int.tdiv (wrap64 ((wrap64 (s0_1 + 1)) - 1)) (s0_0.length : Int))) * 53)))) 64))) a1,(wrap64 (s0_1 + 1))))) else (none)) else (none)) else (none)) else (none)))) = some (r1,r2):=by rw [if_neg (show ¬ (false = true) by decide)] at H;exact H
    clear H
    have H:=H1
    clear H1
    by_cases c8 : (wrap64 ((wrap64 (s0_1 + 1)) - 1)) < (s0_0.length : Int)
    ·rw [if_pos c8] at H
     have c8b0 : decide ((wrap64 ((wrap64 (s0_1 + 1)) - 1)) < (s0_0.length : Int)) = true:=decide_eq_true c8
     clear c8
     obtain ⟨ji9,hji9⟩ : ∃ j_ : Int,(wrap64 ((wrap64 (s0_1 + 1)) - 1)) = j_:=⟨_,rfl⟩
     replace H : (if 0 ≤ (ji9) then (if a1 = 0 then (none) else (some (Int.tmod (wrap64 (rd s0_0 (ji9))) a1,(wrap64 (s0_1 + 1))))) else (none)) = some (r1,r2):=by first | (rw [hji9] at H;exact H) | (simp only [hji9] at H ⊢;exact H)
     (try rw [hji9] at c8b0)
     have hji9w : (IntKind.i64.wrap ((wrap64 (s0_1 + 1)) - 1)) = ji9:=(i64_w _).trans hji9
     by_cases c10 : 0 ≤ (ji9)
     ·rw [if_pos c10] at H
      have c10b0 : decide (0 ≤ (ji9)) = true:=decide_eq_true c10
      clear c10
      by_cases c11 : a1 = 0
      ·rw [if_pos c11] at H
       exact absurd H (by simp)
      ·rw [if_neg c11] at H
       have c11b0 : (a1 == 0) = false:=beq_eq_false_iff_ne.mpr c11
       have c11b1 : (a1 != 0) = true:=bne_iff_ne.mpr c11
       simp only [Option.some.injEq,Prod.mk.injEq] at H
       obtain ⟨rfl,rfl⟩:=H
       obtain ⟨ASz12_0,cSz12_0,HGz12,hgz12,HSz12_0⟩:=HI0.out
       have hcz12_0:=cellS70_0 HGz12
       have hcz12_1:=cellS70_1 HGz12
       have hfz12_1:=blk_frozen HGz12 1
       clear HGz12 hgz12
       have p191 : 0 ≤ ((ji9) : Int):=Up.od
       have q191 : (ji9) < (s0_0.length : Int):=Up.od
       obtain ⟨ad191,e191,hx191_0⟩:=Kd.at_int HSz12_0 (ji9) p191 q191
       cases e191
       replace hx191_0:=pw_cell_below HB.out hx191_0
       replace p191:=eq_true p191
       replace q191:=eq_true q191
       go_wp2
       repeat (go_quiet (fail);try go_wp2)
       go_ret
       exact ⟨by first | rfl | (simp [errW_none,errW_some] <;> rfl) | (simp only [← hji9];first | rfl | (simp [errW_none,errW_some] <;> rfl)) | (simp [*,errW_none,errW_some] <;> rfl),by repeat (first | (with_reducible first | exact HI0.out | apply IsS70.alloc | apply IsS70.drewN | apply IsS70.drew | apply IsS70.set_1) | exact HI0.out),by repeat (first | (with_reducible first | exact HB.out | apply below_alloc | apply pw_below_drewN | apply below_drew1 | refine below_set ?_ (IsS70.ge HI0.out)) | exact HB.out),by repeat (first | (with_reducible first | exact HK.out | apply KeepBut.set_ | apply keep_drewN | apply keep_drew | apply keep_alloc) | exact HK.out)⟩
     ·rw [if_neg c10] at H
      exact absurd H (by simp)
    ·rw [if_neg c8] at H
     have c8b0 : decide ((wrap64 ((wrap64 (s0_1 + 1)) - 1)) < (s0_0.length : Int)) = false:=decide_eq_false c8
     clear c8
     by_cases c13 : (s0_0.length : Int) = 0
     ·rw [if_pos c13] at H
      exact absurd H (by simp)
     ·rw [if_neg c13] at H
      have c13b0 : ((s0_0.length : Int) == 0) = false:=beq_eq_false_iff_ne.mpr c13
      have c13b1 : ((s0_0.length : Int) != 0) = true:=bne_iff_ne.mpr c13
      have c13b2 : ¬ (s0_0 = []):=fun h_ => c13 (by rw [h_];rfl)
      obtain ⟨ji14,hji14⟩ : ∃ j_ : Int,(Int.tmod (wrap64 ((wrap64 (s0_1 + 1)) - 1)) (s0_0.length : Int)) = j_:=⟨_,rfl⟩
      replace H : (if 0 ≤ (ji14) then (if (ji14) < (s0_0.length : Int) then (if 0 ≤ (Int.tmod (wrap64 ((wrap64 ((wrap64 ((wrap64 (s0_1 + 1)) - 1)) * 7)) + 3)) (s0_0.length : Int)) then (if (Int.tmod (wrap64 ((wrap64 ((wrap64 ((wrap64 (s0_1 + 1)) - 1)) * 7)) + 3)) (s0_0.length : Int)) < (s0_0.length : Int) then (if a1 = 0 then (none) else (some (Int.tmod (Go.bits .xor .i64 (wrap64 ((wrap64 ((wrap64 ((wrap64 ((wrap64 (rd s0_0 (ji14))) * 131)) + (wrap64 ((wrap64 (rd s0_0 (Int.tmod (wrap64 ((wrap64 ((wrap64 ((wrap64 (s0_1 + 1)) - 1)) * 7)) + 3)) (s0_0.length : Int)))) * 1117)))) + (wrap64 ((wrap64 ((wrap64 (s0_1 + 1)) - 1)) * 29)))) + (wrap64 ((wrap64 (Int.tdiv (wrap64 ((wrap64 (s0_1 + 1)) - 1)) (s0_0.length : Int))) * 53)))) (wrap64 (Int.tdiv (wrap64 ((wrap64 ((wrap64 ((wrap64 ((wrap64 (rd s0_0 (ji14))) * 131)) + (wrap64 ((wrap64 (rd s0_0 (Int.tmod (wrap64 ((wrap64 ((wrap64 ((wrap64 (s0_1 + 1)) - 1)) * 7)) + 3)) (s0_0.length : Int)))) * 1117)))) + (wrap64 ((wrap64 ((wrap64 (s0_1 + 1)) - 1)) * 29)))) + (wrap64 ((wrap64 (Int.tdiv (wrap64 ((wrap64 (s0_1 + 1)) - 1)) (s0_0.length : Int))) * 53)))) 64))) a1,(wrap64 (s0_1 + 1))))) else (none)) else (none)) else (none)) else (none)) = some (r1,r2):=by first | (rw [hji14] at H;exact H) | (simp only [hji14] at H ⊢;exact H)
      by_cases c15 : 0 ≤ (ji14)
      ·rw [if_pos c15] at H
       have c15b0 : decide (0 ≤ (ji14)) = true:=decide_eq_true c15
       clear c15
       by_cases c16 : (ji14) < (s0_0.length : Int)
       ·rw [if_pos c16] at H
        have c16b0 : decide ((ji14) < (s0_0.length : Int)) = true:=decide_eq_true c16
        clear c16
        obtain ⟨ji17,hji17⟩ : ∃ j_ : Int,(Int.tmod (wrap64 ((wrap64 ((wrap64 ((wrap64 (s0_1 + 1)) - 1)) * 7)) + 3)) (s0_0.length : Int)) = j_:=⟨_,rfl⟩
        replace H : (if 0 ≤ (ji17) then (if (ji17) < (s0_0.length : Int) then (if a1 = 0 then (none) else (some (Int.tmod (Go.bits .xor .i64 (wrap64 ((wrap64 ((wrap64 ((wrap64 ((wrap64 (rd s0_0 (ji14))) * 131)) + (wrap64 ((wrap64 (rd s0_0 (ji17))) * 1117)))) + (wrap64 ((wrap64 ((wrap64 (s0_1 + 1)) - 1)) * 29)))) + (wrap64 ((wrap64 (Int.tdiv (wrap64 ((wrap64 (s0_1 + 1)) - 1)) (s0_0.length : Int))) * 53)))) (wrap64 (Int.tdiv (wrap64 ((wrap64 ((wrap64 ((wrap64 ((wrap64 (rd s0_0 (ji14))) * 131)) + (wrap64 ((wrap64 (rd s0_0 (ji17))) * 1117)))) + (wrap64 ((wrap64 ((wrap64 (s0_1 + 1)) - 1)) * 29)))) + (wrap64 ((wrap64 (Int.tdiv (wrap64 ((wrap64 (s0_1 + 1)) - 1)) (s0_0.length : Int))) * 53)))) 64))) a1,(wrap64 (s0_1 + 1))))) else (none)) else (none)) = some (r1,r2):=by first | (rw [hji17] at H;exact H) | (simp only [hji17] at H ⊢;exact H)
        by_cases c18 : 0 ≤ (ji17)
        ·rw [if_pos c18] at H
         have c18b0 : decide (0 ≤ (ji17)) = true:=decide_eq_true c18
         clear c18
         by_cases c19 : (ji17) < (s0_0.length : Int)
         ·rw [if_pos c19] at H
          have c19b0 : decide ((ji17) < (s0_0.length : Int)) = true:=decide_eq_true c19
          clear c19
          by_cases c20 : a1 = 0
          ·rw [if_pos c20] at H
           exact absurd H (by simp)
          ·rw [if_neg c20] at H
           have c20b0 : (a1 == 0) = false:=beq_eq_false_iff_ne.mpr c20
           have c20b1 : (a1 != 0) = true:=bne_iff_ne.mpr c20
           simp only [Option.some.injEq,Prod.mk.injEq] at H
           obtain ⟨rfl,rfl⟩:=H
           obtain ⟨ASz21_0,cSz21_0,HGz21,hgz21,HSz21_0⟩:=HI0.out
           have hcz21_0:=cellS70_0 HGz21
           have hcz21_1:=cellS70_1 HGz21
           have hfz21_1:=blk_frozen HGz21 1
           clear HGz21 hgz21
           have p192 : 0 ≤ ((ji14) : Int):=Up.od
           have q192 : (ji14) < (s0_0.length : Int):=Up.od
           obtain ⟨ad192,e192,hx192_0⟩:=Kd.at_int HSz21_0 (ji14) p192 q192
           cases e192
           replace hx192_0:=pw_cell_below HB.out hx192_0
           replace p192:=eq_true p192
           replace q192:=eq_true q192
           have p193 : 0 ≤ ((ji17) : Int):=Up.od
           have q193 : (ji17) < (s0_0.length : Int):=Up.od
           obtain ⟨ad193,e193,hx193_0⟩:=Kd.at_int HSz21_0 (ji17) p193 q193
           obtain rfl : ad192 = ad193:=(by injection e193)
           replace hx193_0:=pw_cell_below HB.out hx193_0
           replace p193:=eq_true p193
           replace q193:=eq_true q193
           go_wp2
           repeat (go_quiet (fail);try go_wp2)
           go_ret
           exact ⟨by first | rfl | (simp [errW_none,errW_some] <;> rfl) | (simp only [← hji14,← hji17];first | rfl | (simp [errW_none,errW_some] <;> rfl)) | (simp [*,errW_none,errW_some] <;> rfl),by repeat (first | (with_reducible first | exact HI0.out | apply IsS70.alloc | apply IsS70.drewN | apply IsS70.drew | apply IsS70.set_1) | exact HI0.out),by repeat (first | (with_reducible first | exact HB.out | apply below_alloc | apply pw_below_drewN | apply below_drew1 | refine below_set ?_ (IsS70.ge HI0.out)) | exact HB.out),by repeat (first | (with_reducible first | exact HK.out | apply KeepBut.set_ | apply keep_drewN | apply keep_drew | apply keep_alloc) | exact HK.out)⟩
         ·rw [if_neg c19] at H
          exact absurd H (by simp)
        ·rw [if_neg c18] at H
         exact absurd H (by simp)
       ·rw [if_neg c16] at H
        exact absurd H (by simp)
      ·rw [if_neg c15] at H
       exact absurd H (by simp)

/-! ### spec_l91Ins: function 41 -/
def spec_l91Ins.f (k : Nat) (s0_0 : List Int) (s0_1 : Int) : Option (ByteArray × Int × Int × Int):=(spec_l3Table.f).bind fun t195 => ((spec_l6Rd_pick.f k s0_0 s0_1 (t195.length : Int)).bind fun bt198 => (if 0 ≤ bt198.1 then (if bt198.1 < (t195.length : Int) then (if ((rd_T26 t195 bt198.1).f1) > 0 then ((spec_l6Rd_pick.f k s0_0 bt198.2 (mn ((rd_T26 t195 bt198.1).f1) 12)).bind fun bt202 => (if ((rd_T26 t195 bt198.1).f2) > 0 then ((spec_l6Rd_pick.f k s0_0 bt202.2 ((rd_T26 t195 bt198.1).f2)).bind fun bt204 => (some ((rd_T26 t195 bt198.1).f0,bt202.1,bt204.1,bt204.2))) else (some ((rd_T26 t195 bt198.1).f0,bt202.1,(rd_T26 t195 bt198.1).f2,bt202.2)))) else (if ((rd_T26 t195 bt198.1).f2) > 0 then ((spec_l6Rd_pick.f k s0_0 bt198.2 ((rd_T26 t195 bt198.1).f2)).bind fun bt206 => (some ((rd_T26 t195 bt198.1).f0,(rd_T26 t195 bt198.1).f1,bt206.1,bt206.2))) else (some ((rd_T26 t195 bt198.1).f0,(rd_T26 t195 bt198.1).f1,(rd_T26 t195 bt198.1).f2,bt198.2)))) else (none)) else (none)))
theorem spec_l91Ins.mono : ∀ a0 a1 k,LeO (spec_l91Ins.f k a0 a1) (spec_l91Ins.f (k + 1) a0 a1):=by
 intro a0 a1 k
 unfold spec_l91Ins.f
 repeat' first
   | (with_reducible exact spec_l6Rd_pick.mono _ _ _ _)
   | (with_reducible exact LeO.refl _)
   | (with_reducible exact LeO.none _)
   | (with_reducible refine LeO.ite ?_ ?_)
   | (with_reducible refine LeO.bind ?_ (fun _ => ?_))
   | exact spec_l6Rd_pick.mono _ _ _ _
   | exact LeO.none _
   | refine LeO.ite ?_ ?_
   | refine LeO.bind ?_ (fun _ => ?_)
set_option maxHeartbeats 8000000 in
set_option maxRecDepth 100000 in
theorem spec_l91Ins.calls (k : Nat) (g : Nat) (s0_0 : List Int) (s0_1 : Int) (r1 : ByteArray) (r2 : Int) (r3 : Int) (r4 : Int) (w0 w : World) (hI : IsS70 w0 w g s0_0 s0_1) (hB : Below w0.heap.size w0 w) (h : spec_l91Ins.f k s0_0 s0_1 = some (r1,r2,r3,r4)) :
  Calls Tryd.prog 41 #[.pointer (some ⟨g,0,none⟩)] w fun e w' => e = .returned (.agg #[.string r1,.int .i64 r2,.int .i64 r3]) ∧ IsS70 w0 w' g s0_0 r4 ∧ Below w0.heap.size w0 w' ∧ KeepBut w w' g none:=by
 have hu26:=Tryd.underlying26
 have HI0:=Aside0.mk hI
 have HK:=Aside0.mk (KeepBut.refl w g none)
 have HL:=Aside0.mk hB.size
 clear hI
 have HW0:=Aside0.mk hB.size
 have HB:=Aside0.mk hB
 clear hB
 have H : ((spec_l3Table.f).bind fun t195 => ((spec_l6Rd_pick.f k s0_0 s0_1 (t195.length : Int)).bind fun bt198 => (if 0 ≤ bt198.1 then (if bt198.1 < (t195.length : Int) then (if ((rd_T26 t195 bt198.1).f1) > 0 then ((spec_l6Rd_pick.f k s0_0 bt198.2 (mn ((rd_T26 t195 bt198.1).f1) 12)).bind fun bt202 => (if ((rd_T26 t195 bt198.1).f2) > 0 then ((spec_l6Rd_pick.f k s0_0 bt202.2 ((rd_T26 t195 bt198.1).f2)).bind fun bt204 => (some ((rd_T26 t195 bt198.1).f0,bt202.1,bt204.1,bt204.2))) else (some ((rd_T26 t195 bt198.1).f0,bt202.1,(rd_T26 t195 bt198.1).f2,bt202.2)))) else (if ((rd_T26 t195 bt198.1).f2) > 0 then ((spec_l6Rd_pick.f k s0_0 bt198.2 ((rd_T26 t195 bt198.1).f2)).bind fun bt206 => (some ((rd_T26 t195 bt198.1).f0,(rd_T26 t195 bt198.1).f1,bt206.1,bt206.2))) else (some ((rd_T26 t195 bt198.1).f0,(rd_T26 t195 bt198.1).f1,(rd_T26 t195 bt198.1).f2,bt198.2)))) else (none)) else (none)))) = some (r1,r2,r3,r4):=h
 clear h
 replace H:=Option.bind_eq_some_iff.mp H
 obtain ⟨t195,A20,H⟩:=H
 replace H : ((spec_l6Rd_pick.f k s0_0 s0_1 (t195.length : Int)).bind fun bt198 => (if 0 ≤ bt198.1 then (if bt198.1 < (t195.length : Int) then (if ((rd_T26 t195 bt198.1).f1) > 0 then ((spec_l6Rd_pick.f k s0_0 bt198.2 (mn ((rd_T26 t195 bt198.1).f1) 12)).bind fun bt202 => (if ((rd_T26 t195 bt198.1).f2) > 0 then ((spec_l6Rd_pick.f k s0_0 bt202.2 ((rd_T26 t195 bt198.1).f2)).bind fun bt204 => (some ((rd_T26 t195 bt198.1).f0,bt202.1,bt204.1,bt204.2))) else (some ((rd_T26 t195 bt198.1).f0,bt202.1,(rd_T26 t195 bt198.1).f2,bt202.2)))) else (if ((rd_T26 t195 bt198.1).f2) > 0 then ((spec_l6Rd_pick.f k s0_0 bt198.2 ((rd_T26 t195 bt198.1).f2)).bind fun bt206 => (some ((rd_T26 t195 bt198.1).f0,(rd_T26 t195 bt198.1).f1,bt206.1,bt206.2))) else (some ((rd_T26 t195 bt198.1).f0,(rd_T26 t195 bt198.1).f1,(rd_T26 t195 bt198.1).f2,bt198.2)))) else (none)) else (none))) = some (r1,r2,r3,r4):=H
 have A2:=Aside0.mk A20
 clear A20
 replace H:=Option.bind_eq_some_iff.mp H
 obtain ⟨⟨t198,t199⟩,A30,H⟩:=H
 replace H : (if 0 ≤ t198 then (if t198 < (t195.length : Int) then (if ((rd_T26 t195 t198).f1) > 0 then ((spec_l6Rd_pick.f k s0_0 t199 (mn ((rd_T26 t195 t198).f1) 12)).bind fun bt202 => (if ((rd_T26 t195 t198).f2) > 0 then ((spec_l6Rd_pick.f k s0_0 bt202.2 ((rd_T26 t195 t198).f2)).bind fun bt204 => (some ((rd_T26 t195 t198).f0,bt202.1,bt204.1,bt204.2))) else (some ((rd_T26 t195 t198).f0,bt202.1,(rd_T26 t195 t198).f2,bt202.2)))) else (if ((rd_T26 t195 t198).f2) > 0 then ((spec_l6Rd_pick.f k s0_0 t199 ((rd_T26 t195 t198).f2)).bind fun bt206 => (some ((rd_T26 t195 t198).f0,(rd_T26 t195 t198).f1,bt206.1,bt206.2))) else (some ((rd_T26 t195 t198).f0,(rd_T26 t195 t198).f1,(rd_T26 t195 t198).f2,t199)))) else (none)) else (none)) = some (r1,r2,r3,r4):=H
 have A3:=Aside0.mk A30
 clear A30
 by_cases c4 : 0 ≤ t198
 ·rw [if_pos c4] at H
  have c4b0 : decide (0 ≤ t198) = true:=decide_eq_true c4
  clear c4
  by_cases c5 : t198 < (t195.length : Int)
  ·rw [if_pos c5] at H
   have c5b0 : decide (t198 < (t195.length : Int)) = true:=decide_eq_true c5
   clear c5
   by_cases c6 : ((rd_T26 t195 t198).f1) > 0
   ·rw [if_pos c6] at H
    have c6b0 : decide (0 < ((rd_T26 t195 t198).f1)) = true:=decide_eq_true c6
    clear c6
    obtain ⟨ji7,hji7⟩ : ∃ j_ : Int,(mn ((rd_T26 t195 t198).f1) 12) = j_:=⟨_,rfl⟩
    replace H : ((spec_l6Rd_pick.f k s0_0 t199 (ji7)).bind fun bt202 => (if ((rd_T26 t195 t198).f2) > 0 then ((spec_l6Rd_pick.f k s0_0 bt202.2 ((rd_T26 t195 t198).f2)).bind fun bt204 => (some ((rd_T26 t195 t198).f0,bt202.1,bt204.1,bt204.2))) else (some ((rd_T26 t195 t198).f0,bt202.1,(rd_T26 t195 t198).f2,bt202.2)))) = some (r1,r2,r3,r4):=by first | (rw [hji7] at H;exact H) | (simp only [hji7] at H ⊢;exact H)
    (try rw [hji7] at A2)
    (try rw [hji7] at A3)
    (try (have hji7h : ji7 ≤ 12:=by (rw [← hji7];unfold mn;(repeat' split) <;> omega)))
    (try (have hji7g : ji7 ≤ 64:=by omega))
    have hji7_ : (if 12 < ((rd_T26 t195 t198).f1) then 12 else ((rd_T26 t195 t198).f1)) = ji7:=hji7
    replace H:=Option.bind_eq_some_iff.mp H
    obtain ⟨⟨t202,t203⟩,A80,H⟩:=H
    replace H : (if ((rd_T26 t195 t198).f2) > 0 then ((spec_l6Rd_pick.f k s0_0 t203 ((rd_T26 t195 t198).f2)).bind fun bt204 => (some ((rd_T26 t195 t198).f0,t202,bt204.1,bt204.2))) else (some ((rd_T26 t195 t198).f0,t202,(rd_T26 t195 t198).f2,t203))) = some (r1,r2,r3,r4):=H
    have A8:=Aside0.mk A80
    clear A80
    by_cases c9 : ((rd_T26 t195 t198).f2) > 0
    ·rw [if_pos c9] at H
     have c9b0 : decide (0 < ((rd_T26 t195 t198).f2)) = true:=decide_eq_true c9
     clear c9
     replace H:=Option.bind_eq_some_iff.mp H
     obtain ⟨⟨t204,t205⟩,A100,H⟩:=H
     replace H : (some ((rd_T26 t195 t198).f0,t202,t204,t205)) = some (r1,r2,r3,r4):=H
     have A10:=Aside0.mk A100
     clear A100
     simp only [Option.some.injEq,Prod.mk.injEq] at H
     obtain ⟨rfl,rfl,rfl,rfl⟩:=H
     go_enter Tryd.func41,Tryd.ntmps41
     go_wp2_with (first | ((with_reducible refine gate_dst (N:=2) rfl ?_);refine Up.bx 2 26 #[.string (⟨#[]⟩ : ByteArray),.int .i64 0,.int .i64 0] ?_;intro gb194 hg w11 hbox hb;have n0_:=Aside0.mk (IsS70.below (Ip0 HI0) hb);have n1_:=Aside0.mk (KeepBut.trans (Up.Kp0 HK) (KeepBut.of_below hb g none) (.inl rfl));have n2_:=Aside0.mk (below_step (Up.Bs HB (IsS70.ge HI0.out)) hb);have n3_:=Aside0.mk (hbox);have n4_:=Aside0.mk ((by rw [hg];exact (keep_size (w:=w) (g:=g) (row:=none) (Up.Kp0 HK)) : w.heap.size ≤ gb194));have n5_:=Aside0.mk ((Nat.le_trans HW0.out (by rw [hg];exact (keep_size (w:=w) (g:=g) (row:=none) (Up.Kp0 HK)) : w.heap.size ≤ gb194) : w0.heap.size ≤ gb194));have n6_:=Aside0.mk ((by rw [hg];exact Nat.ne_of_lt (IsS70.lt (show IsS70 w0 _ g s0_0 s0_1 from by repeat (first | (with_reducible first | exact HI0.out | apply IsS70.alloc | apply IsS70.drewN | apply IsS70.drew | apply IsS70.set_1) | exact HI0.out))) : g ≠ gb194));have n7_:=Aside0.mk ((by rw [hg];exact Nat.ne_of_gt (IsS70.lt (show IsS70 w0 _ g s0_0 s0_1 from by repeat (first | (with_reducible first | exact HI0.out | apply IsS70.alloc | apply IsS70.drewN | apply IsS70.drew | apply IsS70.set_1) | exact HI0.out))) : gb194 ≠ g));clear HI0 HK HB;have HI0:=n0_;have HK:=n1_;have HB:=n2_;have BK194:=n3_;have GW194:=n4_;have GE194:=n5_;have NB0_194:=n6_;have NB194_0:=n7_;clear n0_ n1_ n2_ n3_ n4_ n5_ n6_ n7_ hb hbox hg) | ((with_reducible refine gate_callee (f:=36) rfl ?_);refine Up.gl (some 5) Tryd.func36 #[] ?_;(with_reducible refine (spec_l3Table.calls  t195 _ A2.out).mono ?_);rintro e w12 ⟨v196,rfl,ho0,hb⟩;refine ⟨_,rfl,?_⟩;have n0_:=Aside0.mk (Kd.R_lower (Kd.R_newB ho0 (g:=gb194) (o:=.cells #[.string (⟨#[]⟩ : ByteArray),.int .i64 0,.int .i64 0] 26 (0,0)) (Up.Kup BK194)) (keep_size (w:=w) (g:=g) (row:=none) (Up.Kp HK GW194)));have n1_:=Aside0.mk (IsS70.below (Ip1 HI0 NB0_194) hb);have n2_:=Up.KB BK194 hb;have n3_:=Aside0.mk (KeepBut.trans (Up.Kp HK GW194) (KeepBut.of_below hb g none) (.inl rfl));have n4_:=Aside0.mk (below_step (Up.Bt HB (IsS70.ge HI0.out) GE194) hb);clear HI0 BK194 HK HB;have HO197:=n0_;have HI0:=n1_;have BK194:=n2_;have HK:=n3_;have HB:=n4_;clear n0_ n1_ n2_ n3_ n4_;(try clear hb);(try clear hb2);(try clear hk);(try clear hi);(try clear ho0);obtain ⟨Ao13,co13,eo13⟩:=Kd.R_slice HO197.out;subst eo13) | ((with_reducible refine gate_callee (f:=42) rfl ?_);refine Up.gl (some 10) Tryd.func42 #[.pointer (some ⟨g,0,none⟩),.int .i64 (t195.length : Int)] ?_;(with_reducible refine (spec_l6Rd_pick.calls k g s0_0 s0_1 (t195.length : Int) t198 t199 w0 _ ?side1 ?side2 A3.out).mono ?_);(case side1 => repeat (first | (with_reducible first | exact HI0.out | apply IsS70.alloc | apply IsS70.drewN | apply IsS70.drew | apply IsS70.set_1 | refine IsS70.far ?_ NB0_194.out _) | exact HI0.out));(case side2 => repeat (first | (with_reducible first | exact HB.out | apply below_alloc | apply pw_below_drewN | apply below_drew1 | refine below_set ?_ (IsS70.ge HI0.out) | refine below_set ?_ GE194.out) | exact HB.out));rintro e w14 ⟨rfl,hi,hb,hk⟩;refine ⟨_,rfl,?_⟩;have n0_:=Aside0.mk (KeepBut.blk hk (g':=gb194) (o:=.cells #[.string (⟨#[]⟩ : ByteArray),.int .i64 0,.int .i64 0] 26 (0,0)) (Up.Kup BK194) NB194_0.out (by simp));have n1_:=Aside0.mk (Kd.R_mono (Kd.R_keep (IsS70.apart (show IsS70 w0 _ g s0_0 s0_1 from by repeat (first | (with_reducible first | exact HI0.out | apply IsS70.alloc | apply IsS70.drewN | apply IsS70.drew | apply IsS70.set_1 | refine IsS70.far ?_ NB0_194.out _) | exact HI0.out)) (Up.Rup HO197) (by decide)) hk (fun _ h => h.2)) (fun _ h => h.1));have n2_:=Aside0.mk (KeepBut.trans (Up.Kp HK GW194) hk (.inl rfl));have n3_:=Aside0.mk (hb);have n4_:=Aside0.mk (hi);clear BK194 HO197 HK HB HI0;have BK194:=n0_;have HO197:=n1_;have HK:=n2_;have HB:=n3_;have HI0:=n4_;clear n0_ n1_ n2_ n3_ n4_;(try clear hb);(try clear hb2);(try clear hk);(try clear hi);have p200 : 0 ≤ (t198 : Int):=Up.od;have q200 : t198 < (t195.length : Int):=Up.od;obtain ⟨ad200,e200,hx200_0,hx200_1,hx200_2⟩:=at_T26 (Kd.R_reads' HO197.out).2.2 t198 p200 q200;cases e200;replace p200:=eq_true p200;replace q200:=eq_true q200) | ((with_reducible refine gate_dst (N:=4) rfl ?_);refine Up.bx 4 26 #[.string (⟨#[]⟩ : ByteArray),.int .i64 0,.int .i64 0] ?_;intro gb201 hg w15 hbox hb;have n0_:=Aside0.mk (Kd.R_below (Kd.R_elderB (Up.Rup HO197) gb201 (Nat.le_of_eq hg.symm)) hb);have n1_:=Aside0.mk (IsS70.below (Ip1 HI0 NB0_194) hb);have n2_:=Up.KB BK194 hb;have n3_:=Aside0.mk (KeepBut.trans (Up.Kp HK GW194) (KeepBut.of_below hb g none) (.inl rfl));have n4_:=Aside0.mk (below_step (Up.Bt HB (IsS70.ge HI0.out) GE194) hb);have n5_:=Aside0.mk (hbox);have n6_:=Aside0.mk ((by rw [hg];exact (keep_size (w:=w) (g:=g) (row:=none) (Up.Kp HK GW194)) : w.heap.size ≤ gb201));have n7_:=Aside0.mk ((Nat.le_trans HW0.out (by rw [hg];exact (keep_size (w:=w) (g:=g) (row:=none) (Up.Kp HK GW194)) : w.heap.size ≤ gb201) : w0.heap.size ≤ gb201));have n8_:=Up.nl hg BK194;have n9_:=Up.ng hg BK194;have n10_:=Aside0.mk ((by rw [hg];exact Nat.ne_of_lt (IsS70.lt (show IsS70 w0 _ g s0_0 t199 from by repeat (first | (with_reducible first | exact HI0.out | apply IsS70.alloc | apply IsS70.drewN | apply IsS70.drew | apply IsS70.set_1 | refine IsS70.far ?_ NB0_194.out _) | exact HI0.out))) : g ≠ gb201));have n11_:=Aside0.mk ((by rw [hg];exact Nat.ne_of_gt (IsS70.lt (show IsS70 w0 _ g s0_0 t199 from by repeat (first | (with_reducible first | exact HI0.out | apply IsS70.alloc | apply IsS70.drewN | apply IsS70.drew | apply IsS70.set_1 | refine IsS70.far ?_ NB0_194.out _) | exact HI0.out))) : gb201 ≠ g));clear HO197 HI0 BK194 HK HB;have HO197:=n0_;have HI0:=n1_;have BK194:=n2_;have HK:=n3_;have HB:=n4_;have BK201:=n5_;have GW201:=n6_;have GE201:=n7_;have NB194_201:=n8_;have NB201_194:=n9_;have NB0_201:=n10_;have NB201_0:=n11_;clear n0_ n1_ n2_ n3_ n4_ n5_ n6_ n7_ n8_ n9_ n10_ n11_ hb hbox hg;have hnb16:=NB201_194.out;have hnc16:=NB194_201.out;have hnb17:=NB201_0.out;have hnc17:=NB0_201.out;have hcz18_0:=Up.c0 BK201;have hcz18_1:=Up.c1 BK201;have hcz18_2:=Up.c2 BK201;have hfz18_0:=blk_frozen BK201.out 0;have hfz18_1:=blk_frozen BK201.out 1;have hfz18_2:=blk_frozen BK201.out 2) | ((with_reducible refine gate_callee (f:=42) rfl ?_);refine goesL_ (some 20) rfl rfl Tryd.func42 (by kernel_rfl) rfl #[.pointer (some ⟨g,0,none⟩),.int .i64 ji7] rfl (by (try simp only [List.map_toArray,List.map_cons,List.map_nil]);first | done | (simp only [hji7];rfl) | rfl | (simp only [List.length_drop,List.length_take];rfl)) ?_;(with_reducible refine (spec_l6Rd_pick.calls k g s0_0 t199 ji7 t202 t203 w0 _ ?side1 ?side2 A8.out).mono ?_);(case side1 => repeat (first | (with_reducible first | exact HI0.out | apply IsS70.alloc | apply IsS70.drewN | apply IsS70.drew | apply IsS70.set_1 | refine IsS70.far ?_ NB0_194.out _ | refine IsS70.far ?_ NB0_201.out _) | exact HI0.out));(case side2 => repeat (first | (with_reducible first | exact HB.out | apply below_alloc | apply pw_below_drewN | apply below_drew1 | refine below_set ?_ (IsS70.ge HI0.out) | refine below_set ?_ GE194.out | refine below_set ?_ GE201.out) | exact HB.out));rintro e w19 ⟨rfl,hi,hb,hk⟩;refine ⟨_,rfl,?_⟩;have n0_:=Aside0.mk (KeepBut.blk hk (g':=gb194) (o:=.cells #[.string (⟨#[]⟩ : ByteArray),.int .i64 0,.int .i64 0] 26 (0,0)) (Up.Kx BK194) NB194_0.out (by simp));have n1_:=Aside0.mk (Kd.R_mono (Kd.R_keep (IsS70.apart (show IsS70 w0 _ g s0_0 t199 from by repeat (first | (with_reducible first | exact HI0.out | apply IsS70.alloc | apply IsS70.drewN | apply IsS70.drew | apply IsS70.set_1 | refine IsS70.far ?_ NB0_194.out _ | refine IsS70.far ?_ NB0_201.out _) | exact HI0.out)) (by (with_reducible repeat (first | apply Kd.R_alloc | apply Kd.R_drewN | apply Kd.R_drew));exact (Kd.R_mono (Kd.R_far (p:=⟨gb201,2,none⟩) (Kd.R_far (p:=⟨gb201,1,none⟩) (Kd.R_far (p:=⟨gb201,0,none⟩) (Kd.R_mono HO197.out (fun k_ hk => (⟨hk,hk.2⟩ : _ ∧ k_ ≠ gb201))) (fun _ hk => hk.2) (.string ((rd_T26 t195 t198).f0))) (fun _ hk => hk.2) (.int .i64 ((rd_T26 t195 t198).f1))) (fun _ hk => hk.2) (.int .i64 ((rd_T26 t195 t198).f2))) (fun _ h_ => h_.1))) (by decide)) hk (fun _ h => h.2)) (fun _ h => h.1));have n2_:=Aside0.mk (KeepBut.blk hk (g':=gb201) (o:=.cells #[.string ((rd_T26 t195 t198).f0),.int .i64 ((rd_T26 t195 t198).f1),.int .i64 ((rd_T26 t195 t198).f2)] 26 (0,0)) (Up.Kx BK201) NB201_0.out (by simp));have n3_:=Aside0.mk (KeepBut.trans (by repeat (first | (with_reducible first | exact HK.out | apply KeepBut.set_ | apply keep_drewN | apply keep_drew | apply keep_alloc | refine keep_far ?_ GW194.out _ | refine keep_far ?_ GW201.out _) | exact HK.out)) hk (.inl rfl));have n4_:=Aside0.mk (hb);have n5_:=Aside0.mk (hi);clear BK194 HO197 BK201 HK HB HI0;have BK194:=n0_;have HO197:=n1_;have BK201:=n2_;have HK:=n3_;have HB:=n4_;have HI0:=n5_;clear n0_ n1_ n2_ n3_ n4_ n5_;(try clear hb);(try clear hb2);(try clear hk);(try clear hi);have hcz20_0:=Up.c0 BK201;have hcz20_1:=Up.c1 BK201;have hcz20_2:=Up.c2 BK201;have hfz20_0:=blk_frozen BK201.out 0;have hfz20_1:=blk_frozen BK201.out 1;have hfz20_2:=blk_frozen BK201.out 2) | ((with_reducible refine gate_callee (f:=42) rfl ?_);refine Up.gl (some 28) Tryd.func42 #[.pointer (some ⟨g,0,none⟩),.int .i64 ((rd_T26 t195 t198).f2)] ?_;(with_reducible refine (spec_l6Rd_pick.calls k g s0_0 t203 ((rd_T26 t195 t198).f2) t204 t205 w0 _ ?side1 ?side2 A10.out).mono ?_);(case side1 => repeat (first | (with_reducible first | exact HI0.out | apply IsS70.alloc | apply IsS70.drewN | apply IsS70.drew | apply IsS70.set_1 | refine IsS70.far ?_ NB0_194.out _ | refine IsS70.far ?_ NB0_201.out _) | exact HI0.out));(case side2 => repeat (first | (with_reducible first | exact HB.out | apply below_alloc | apply pw_below_drewN | apply below_drew1 | refine below_set ?_ (IsS70.ge HI0.out) | refine below_set ?_ GE194.out | refine below_set ?_ GE201.out) | exact HB.out));rintro e w21 ⟨rfl,hi,hb,hk⟩;refine ⟨_,rfl,?_⟩;have n0_:=Aside0.mk (KeepBut.blk hk (g':=gb194) (o:=.cells #[.string (⟨#[]⟩ : ByteArray),.int .i64 0,.int .i64 0] 26 (0,0)) (Up.Kx BK194) NB194_0.out (by simp));have n1_:=Aside0.mk (Kd.R_mono (Kd.R_keep (IsS70.apart (show IsS70 w0 _ g s0_0 t203 from by repeat (first | (with_reducible first | exact HI0.out | apply IsS70.alloc | apply IsS70.drewN | apply IsS70.drew | apply IsS70.set_1 | refine IsS70.far ?_ NB0_194.out _ | refine IsS70.far ?_ NB0_201.out _) | exact HI0.out)) (by (with_reducible repeat (first | apply Kd.R_alloc | apply Kd.R_drewN | apply Kd.R_drew));exact (Kd.R_mono (Kd.R_far (p:=⟨gb201,1,none⟩) (Kd.R_mono HO197.out (fun k_ hk => (⟨hk,hk.2⟩ : _ ∧ k_ ≠ gb201))) (fun _ hk => hk.2) (.int .i64 t202)) (fun _ h_ => h_.1))) (by decide)) hk (fun _ h => h.2)) (fun _ h => h.1));have n2_:=Aside0.mk (KeepBut.blk hk (g':=gb201) (o:=.cells #[.string ((rd_T26 t195 t198).f0),.int .i64 t202,.int .i64 ((rd_T26 t195 t198).f2)] 26 (0,0)) (Up.Kx BK201) NB201_0.out (by simp));have n3_:=Aside0.mk (KeepBut.trans (by repeat (first | (with_reducible first | exact HK.out | apply KeepBut.set_ | apply keep_drewN | apply keep_drew | apply keep_alloc | refine keep_far ?_ GW194.out _ | refine keep_far ?_ GW201.out _) | exact HK.out)) hk (.inl rfl));have n4_:=Aside0.mk (hb);have n5_:=Aside0.mk (hi);clear BK194 HO197 BK201 HK HB HI0;have BK194:=n0_;have HO197:=n1_;have BK201:=n2_;have HK:=n3_;have HB:=n4_;have HI0:=n5_;clear n0_ n1_ n2_ n3_ n4_ n5_;(try clear hb);(try clear hb2);(try clear hk);(try clear hi);have hcz22_0:=Up.c0 BK201;have hcz22_1:=Up.c1 BK201;have hcz22_2:=Up.c2 BK201;have hfz22_0:=blk_frozen BK201.out 0;have hfz22_1:=blk_frozen BK201.out 1;have hfz22_2:=blk_frozen BK201.out 2;have hnb23:=NB194_0.out;have hnc23:=NB0_194.out;have hcz24_0:=Up.c0 BK194;have hcz24_1:=Up.c1 BK194;have hcz24_2:=Up.c2 BK194;have hfz24_0:=blk_frozen BK194.out 0;have hfz24_1:=blk_frozen BK194.out 1;have hfz24_2:=blk_frozen BK194.out 2))
     refine bodyPost_ret (results_cell_row rfl _ _ gb194 26 #[.string ((rd_T26 t195 t198).f0),.int .i64 t202,.int .i64 t204] (0,0) _ rfl (Up.Kx BK194) Tryd.underlying26 rfl (by kernel_rfl)) rfl ?_
     exact ⟨by first | rfl | (simp [errW_none,errW_some] <;> rfl) | (simp only [← hji7];first | rfl | (simp [errW_none,errW_some] <;> rfl)) | (simp [*,errW_none,errW_some] <;> rfl),by repeat (first | (with_reducible first | exact HI0.out | apply IsS70.alloc | apply IsS70.drewN | apply IsS70.drew | apply IsS70.set_1 | refine IsS70.far ?_ NB0_194.out _ | refine IsS70.far ?_ NB0_201.out _) | exact HI0.out),by repeat (first | (with_reducible first | exact HB.out | apply below_alloc | apply pw_below_drewN | apply below_drew1 | refine below_set ?_ (IsS70.ge HI0.out) | refine below_set ?_ GE194.out | refine below_set ?_ GE201.out) | exact HB.out),by repeat (first | (with_reducible first | exact HK.out | apply KeepBut.set_ | apply keep_drewN | apply keep_drew | apply keep_alloc | refine keep_far ?_ GW194.out _ | refine keep_far ?_ GW201.out _) | exact HK.out)⟩
    ·rw [if_neg c9] at H
     have c9b0 : decide (0 < ((rd_T26 t195 t198).f2)) = false:=decide_eq_false c9
     clear c9
     simp only [Option.some.injEq,Prod.mk.injEq] at H
     obtain ⟨rfl,rfl,rfl,rfl⟩:=H
     go_enter Tryd.func41,Tryd.ntmps41
     go_wp2_with (first | ((with_reducible refine gate_dst (N:=2) rfl ?_);refine Up.bx 2 26 #[.string (⟨#[]⟩ : ByteArray),.int .i64 0,.int .i64 0] ?_;intro gb194 hg w25 hbox hb;have n0_:=Aside0.mk (IsS70.below (Ip0 HI0) hb);have n1_:=Aside0.mk (KeepBut.trans (Up.Kp0 HK) (KeepBut.of_below hb g none) (.inl rfl));have n2_:=Aside0.mk (below_step (Up.Bs HB (IsS70.ge HI0.out)) hb);have n3_:=Aside0.mk (hbox);have n4_:=Aside0.mk ((by rw [hg];exact (keep_size (w:=w) (g:=g) (row:=none) (Up.Kp0 HK)) : w.heap.size ≤ gb194));have n5_:=Aside0.mk ((Nat.le_trans HW0.out (by rw [hg];exact (keep_size (w:=w) (g:=g) (row:=none) (Up.Kp0 HK)) : w.heap.size ≤ gb194) : w0.heap.size ≤ gb194));have n6_:=Aside0.mk ((by rw [hg];exact Nat.ne_of_lt (IsS70.lt (show IsS70 w0 _ g s0_0 s0_1 from by repeat (first | (with_reducible first | exact HI0.out | apply IsS70.alloc | apply IsS70.drewN | apply IsS70.drew | apply IsS70.set_1) | exact HI0.out))) : g ≠ gb194));have n7_:=Aside0.mk ((by rw [hg];exact Nat.ne_of_gt (IsS70.lt (show IsS70 w0 _ g s0_0 s0_1 from by repeat (first | (with_reducible first | exact HI0.out | apply IsS70.alloc | apply IsS70.drewN | apply IsS70.drew | apply IsS70.set_1) | exact HI0.out))) : gb194 ≠ g));clear HI0 HK HB;have HI0:=n0_;have HK:=n1_;have HB:=n2_;have BK194:=n3_;have GW194:=n4_;have GE194:=n5_;have NB0_194:=n6_;have NB194_0:=n7_;clear n0_ n1_ n2_ n3_ n4_ n5_ n6_ n7_ hb hbox hg) | ((with_reducible refine gate_callee (f:=36) rfl ?_);refine Up.gl (some 5) Tryd.func36 #[] ?_;(with_reducible refine (spec_l3Table.calls  t195 _ A2.out).mono ?_);rintro e w26 ⟨v196,rfl,ho0,hb⟩;refine ⟨_,rfl,?_⟩;have n0_:=Aside0.mk (Kd.R_lower (Kd.R_newB ho0 (g:=gb194) (o:=.cells #[.string (⟨#[]⟩ : ByteArray),.int .i64 0,.int .i64 0] 26 (0,0)) (Up.Kup BK194)) (keep_size (w:=w) (g:=g) (row:=none) (Up.Kp HK GW194)));have n1_:=Aside0.mk (IsS70.below (Ip1 HI0 NB0_194) hb);have n2_:=Up.KB BK194 hb;have n3_:=Aside0.mk (KeepBut.trans (Up.Kp HK GW194) (KeepBut.of_below hb g none) (.inl rfl));have n4_:=Aside0.mk (below_step (Up.Bt HB (IsS70.ge HI0.out) GE194) hb);clear HI0 BK194 HK HB;have HO197:=n0_;have HI0:=n1_;have BK194:=n2_;have HK:=n3_;have HB:=n4_;clear n0_ n1_ n2_ n3_ n4_;(try clear hb);(try clear hb2);(try clear hk);(try clear hi);(try clear ho0);obtain ⟨Ao27,co27,eo27⟩:=Kd.R_slice HO197.out;subst eo27) | ((with_reducible refine gate_callee (f:=42) rfl ?_);refine Up.gl (some 10) Tryd.func42 #[.pointer (some ⟨g,0,none⟩),.int .i64 (t195.length : Int)] ?_;(with_reducible refine (spec_l6Rd_pick.calls k g s0_0 s0_1 (t195.length : Int) t198 t199 w0 _ ?side1 ?side2 A3.out).mono ?_);(case side1 => repeat (first | (with_reducible first | exact HI0.out | apply IsS70.alloc | apply IsS70.drewN | apply IsS70.drew | apply IsS70.set_1 | refine IsS70.far ?_ NB0_194.out _) | exact HI0.out));(case side2 => repeat (first | (with_reducible first | exact HB.out | apply below_alloc | apply pw_below_drewN | apply below_drew1 | refine below_set ?_ (IsS70.ge HI0.out) | refine below_set ?_ GE194.out) | exact HB.out));rintro e w28 ⟨rfl,hi,hb,hk⟩;refine ⟨_,rfl,?_⟩;have n0_:=Aside0.mk (KeepBut.blk hk (g':=gb194) (o:=.cells #[.string (⟨#[]⟩ : ByteArray),.int .i64 0,.int .i64 0] 26 (0,0)) (Up.Kup BK194) NB194_0.out (by simp));have n1_:=Aside0.mk (Kd.R_mono (Kd.R_keep (IsS70.apart (show IsS70 w0 _ g s0_0 s0_1 from by repeat (first | (with_reducible first | exact HI0.out | apply IsS70.alloc | apply IsS70.drewN | apply IsS70.drew | apply IsS70.set_1 | refine IsS70.far ?_ NB0_194.out _) | exact HI0.out)) (Up.Rup HO197) (by decide)) hk (fun _ h => h.2)) (fun _ h => h.1));have n2_:=Aside0.mk (KeepBut.trans (Up.Kp HK GW194) hk (.inl rfl));have n3_:=Aside0.mk (hb);have n4_:=Aside0.mk (hi);clear BK194 HO197 HK HB HI0;have BK194:=n0_;have HO197:=n1_;have HK:=n2_;have HB:=n3_;have HI0:=n4_;clear n0_ n1_ n2_ n3_ n4_;(try clear hb);(try clear hb2);(try clear hk);(try clear hi);have p200 : 0 ≤ (t198 : Int):=Up.od;have q200 : t198 < (t195.length : Int):=Up.od;obtain ⟨ad200,e200,hx200_0,hx200_1,hx200_2⟩:=at_T26 (Kd.R_reads' HO197.out).2.2 t198 p200 q200;cases e200;replace p200:=eq_true p200;replace q200:=eq_true q200) | ((with_reducible refine gate_dst (N:=4) rfl ?_);refine Up.bx 4 26 #[.string (⟨#[]⟩ : ByteArray),.int .i64 0,.int .i64 0] ?_;intro gb201 hg w29 hbox hb;have n0_:=Aside0.mk (Kd.R_below (Kd.R_elderB (Up.Rup HO197) gb201 (Nat.le_of_eq hg.symm)) hb);have n1_:=Aside0.mk (IsS70.below (Ip1 HI0 NB0_194) hb);have n2_:=Up.KB BK194 hb;have n3_:=Aside0.mk (KeepBut.trans (Up.Kp HK GW194) (KeepBut.of_below hb g none) (.inl rfl));have n4_:=Aside0.mk (below_step (Up.Bt HB (IsS70.ge HI0.out) GE194) hb);have n5_:=Aside0.mk (hbox);have n6_:=Aside0.mk ((by rw [hg];exact (keep_size (w:=w) (g:=g) (row:=none) (Up.Kp HK GW194)) : w.heap.size ≤ gb201));have n7_:=Aside0.mk ((Nat.le_trans HW0.out (by rw [hg];exact (keep_size (w:=w) (g:=g) (row:=none) (Up.Kp HK GW194)) : w.heap.size ≤ gb201) : w0.heap.size ≤ gb201));have n8_:=Up.nl hg BK194;have n9_:=Up.ng hg BK194;have n10_:=Aside0.mk ((by rw [hg];exact Nat.ne_of_lt (IsS70.lt (show IsS70 w0 _ g s0_0 t199 from by repeat (first | (with_reducible first | exact HI0.out | apply IsS70.alloc | apply IsS70.drewN | apply IsS70.drew | apply IsS70.set_1 | refine IsS70.far ?_ NB0_194.out _) | exact HI0.out))) : g ≠ gb201));have n11_:=Aside0.mk ((by rw [hg];exact Nat.ne_of_gt (IsS70.lt (show IsS70 w0 _ g s0_0 t199 from by repeat (first | (with_reducible first | exact HI0.out | apply IsS70.alloc | apply IsS70.drewN | apply IsS70.drew | apply IsS70.set_1 | refine IsS70.far ?_ NB0_194.out _) | exact HI0.out))) : gb201 ≠ g));clear HO197 HI0 BK194 HK HB;have HO197:=n0_;have HI0:=n1_;have BK194:=n2_;have HK:=n3_;have HB:=n4_;have BK201:=n5_;have GW201:=n6_;have GE201:=n7_;have NB194_201:=n8_;have NB201_194:=n9_;have NB0_201:=n10_;have NB201_0:=n11_;clear n0_ n1_ n2_ n3_ n4_ n5_ n6_ n7_ n8_ n9_ n10_ n11_ hb hbox hg;have hnb30:=NB201_194.out;have hnc30:=NB194_201.out;have hnb31:=NB201_0.out;have hnc31:=NB0_201.out;have hcz32_0:=Up.c0 BK201;have hcz32_1:=Up.c1 BK201;have hcz32_2:=Up.c2 BK201;have hfz32_0:=blk_frozen BK201.out 0;have hfz32_1:=blk_frozen BK201.out 1;have hfz32_2:=blk_frozen BK201.out 2) | ((with_reducible refine gate_callee (f:=42) rfl ?_);refine goesL_ (some 20) rfl rfl Tryd.func42 (by kernel_rfl) rfl #[.pointer (some ⟨g,0,none⟩),.int .i64 ji7] rfl (by (try simp only [List.map_toArray,List.map_cons,List.map_nil]);first | done | (simp only [hji7];rfl) | rfl | (simp only [List.length_drop,List.length_take];rfl)) ?_;(with_reducible refine (spec_l6Rd_pick.calls k g s0_0 t199 ji7 t202 t203 w0 _ ?side1 ?side2 A8.out).mono ?_);(case side1 => repeat (first | (with_reducible first | exact HI0.out | apply IsS70.alloc | apply IsS70.drewN | apply IsS70.drew | apply IsS70.set_1 | refine IsS70.far ?_ NB0_194.out _ | refine IsS70.far ?_ NB0_201.out _) | exact HI0.out));(case side2 => repeat (first | (with_reducible first | exact HB.out | apply below_alloc | apply pw_below_drewN | apply below_drew1 | refine below_set ?_ (IsS70.ge HI0.out) | refine below_set ?_ GE194.out | refine below_set ?_ GE201.out) | exact HB.out));rintro e w33 ⟨rfl,hi,hb,hk⟩;refine ⟨_,rfl,?_⟩;have n0_:=Aside0.mk (KeepBut.blk hk (g':=gb194) (o:=.cells #[.string (⟨#[]⟩ : ByteArray),.int .i64 0,.int .i64 0] 26 (0,0)) (Up.Kx BK194) NB194_0.out (by simp));have n1_:=Aside0.mk (Kd.R_mono (Kd.R_keep (IsS70.apart (show IsS70 w0 _ g s0_0 t199 from by repeat (first | (with_reducible first | exact HI0.out | apply IsS70.alloc | apply IsS70.drewN | apply IsS70.drew | apply IsS70.set_1 | refine IsS70.far ?_ NB0_194.out _ | refine IsS70.far ?_ NB0_201.out _) | exact HI0.out)) (by (with_reducible repeat (first | apply Kd.R_alloc | apply Kd.R_drewN | apply Kd.R_drew));exact (Kd.R_mono (Kd.R_far (p:=⟨gb201,2,none⟩) (Kd.R_far (p:=⟨gb201,1,none⟩) (Kd.R_far (p:=⟨gb201,0,none⟩) (Kd.R_mono HO197.out (fun k_ hk => (⟨hk,hk.2⟩ : _ ∧ k_ ≠ gb201))) (fun _ hk => hk.2) (.string ((rd_T26 t195 t198).f0))) (fun _ hk => hk.2) (.int .i64 ((rd_T26 t195 t198).f1))) (fun _ hk => hk.2) (.int .i64 ((rd_T26 t195 t198).f2))) (fun _ h_ => h_.1))) (by decide)) hk (fun _ h => h.2)) (fun _ h => h.1));have n2_:=Aside0.mk (KeepBut.blk hk (g':=gb201) (o:=.cells #[.string ((rd_T26 t195 t198).f0),.int .i64 ((rd_T26 t195 t198).f1),.int .i64 ((rd_T26 t195 t198).f2)] 26 (0,0)) (Up.Kx BK201) NB201_0.out (by simp));have n3_:=Aside0.mk (KeepBut.trans (by repeat (first | (with_reducible first | exact HK.out | apply KeepBut.set_ | apply keep_drewN | apply keep_drew | apply keep_alloc | refine keep_far ?_ GW194.out _ | refine keep_far ?_ GW201.out _) | exact HK.out)) hk (.inl rfl));have n4_:=Aside0.mk (hb);have n5_:=Aside0.mk (hi);clear BK194 HO197 BK201 HK HB HI0;have BK194:=n0_;have HO197:=n1_;have BK201:=n2_;have HK:=n3_;have HB:=n4_;have HI0:=n5_;clear n0_ n1_ n2_ n3_ n4_ n5_;(try clear hb);(try clear hb2);(try clear hk);(try clear hi);have hcz34_0:=Up.c0 BK201;have hcz34_1:=Up.c1 BK201;have hcz34_2:=Up.c2 BK201;have hfz34_0:=blk_frozen BK201.out 0;have hfz34_1:=blk_frozen BK201.out 1;have hfz34_2:=blk_frozen BK201.out 2;have hnb35:=NB194_0.out;have hnc35:=NB0_194.out;have hcz36_0:=Up.c0 BK194;have hcz36_1:=Up.c1 BK194;have hcz36_2:=Up.c2 BK194;have hfz36_0:=blk_frozen BK194.out 0;have hfz36_1:=blk_frozen BK194.out 1;have hfz36_2:=blk_frozen BK194.out 2))
     refine bodyPost_ret (results_cell_row rfl _ _ gb194 26 #[.string ((rd_T26 t195 t198).f0),.int .i64 t202,.int .i64 ((rd_T26 t195 t198).f2)] (0,0) _ rfl (Up.Kx BK194) Tryd.underlying26 rfl (by kernel_rfl)) rfl ?_
     exact ⟨by first | rfl | (simp [errW_none,errW_some] <;> rfl) | (simp only [← hji7];first | rfl | (simp [errW_none,errW_some] <;> rfl)) | (simp [*,errW_none,errW_some] <;> rfl),by repeat (first | (with_reducible first | exact HI0.out | apply IsS70.alloc | apply IsS70.drewN | apply IsS70.drew | apply IsS70.set_1 | refine IsS70.far ?_ NB0_194.out _ | refine IsS70.far ?_ NB0_201.out _) | exact HI0.out),by repeat (first | (with_reducible first | exact HB.out | apply below_alloc | apply pw_below_drewN | apply below_drew1 | refine below_set ?_ (IsS70.ge HI0.out) | refine below_set ?_ GE194.out | refine below_set ?_ GE201.out) | exact HB.out),by repeat (first | (with_reducible first | exact HK.out | apply KeepBut.set_ | apply keep_drewN | apply keep_drew | apply keep_alloc | refine keep_far ?_ GW194.out _ | refine keep_far ?_ GW201.out _) | exact HK.out)⟩
   ·rw [if_neg c6] at H
    have c6b0 : decide (0 < ((rd_T26 t195 t198).f1)) = false:=decide_eq_false c6
    clear c6
    by_cases c37 : ((rd_T26 t195 t198).f2) > 0
    ·rw [if_pos c37] at H
     have c37b0 : decide (0 < ((rd_T26 t195 t198).f2)) = true:=decide_eq_true c37
     clear c37
     replace H:=Option.bind_eq_some_iff.mp H
     obtain ⟨⟨t206,t207⟩,A380,H⟩:=H
     replace H : (some ((rd_T26 t195 t198).f0,(rd_T26 t195 t198).f1,t206,t207)) = some (r1,r2,r3,r4):=H
     have A38:=Aside0.mk A380
     clear A380
     simp only [Option.some.injEq,Prod.mk.injEq] at H
     obtain ⟨rfl,rfl,rfl,rfl⟩:=H
     go_enter Tryd.func41,Tryd.ntmps41
     go_wp2_with (first | ((with_reducible refine gate_dst (N:=2) rfl ?_);refine Up.bx 2 26 #[.string (⟨#[]⟩ : ByteArray),.int .i64 0,.int .i64 0] ?_;intro gb194 hg w39 hbox hb;have n0_:=Aside0.mk (IsS70.below (Ip0 HI0) hb);have n1_:=Aside0.mk (KeepBut.trans (Up.Kp0 HK) (KeepBut.of_below hb g none) (.inl rfl));have n2_:=Aside0.mk (below_step (Up.Bs HB (IsS70.ge HI0.out)) hb);have n3_:=Aside0.mk (hbox);have n4_:=Aside0.mk ((by rw [hg];exact (keep_size (w:=w) (g:=g) (row:=none) (Up.Kp0 HK)) : w.heap.size ≤ gb194));have n5_:=Aside0.mk ((Nat.le_trans HW0.out (by rw [hg];exact (keep_size (w:=w) (g:=g) (row:=none) (Up.Kp0 HK)) : w.heap.size ≤ gb194) : w0.heap.size ≤ gb194));have n6_:=Aside0.mk ((by rw [hg];exact Nat.ne_of_lt (IsS70.lt (show IsS70 w0 _ g s0_0 s0_1 from by repeat (first | (with_reducible first | exact HI0.out | apply IsS70.alloc | apply IsS70.drewN | apply IsS70.drew | apply IsS70.set_1) | exact HI0.out))) : g ≠ gb194));have n7_:=Aside0.mk ((by rw [hg];exact Nat.ne_of_gt (IsS70.lt (show IsS70 w0 _ g s0_0 s0_1 from by repeat (first | (with_reducible first | exact HI0.out | apply IsS70.alloc | apply IsS70.drewN | apply IsS70.drew | apply IsS70.set_1) | exact HI0.out))) : gb194 ≠ g));clear HI0 HK HB;have HI0:=n0_;have HK:=n1_;have HB:=n2_;have BK194:=n3_;have GW194:=n4_;have GE194:=n5_;have NB0_194:=n6_;have NB194_0:=n7_;clear n0_ n1_ n2_ n3_ n4_ n5_ n6_ n7_ hb hbox hg) | ((with_reducible refine gate_callee (f:=36) rfl ?_);refine Up.gl (some 5) Tryd.func36 #[] ?_;(with_reducible refine (spec_l3Table.calls  t195 _ A2.out).mono ?_);rintro e w40 ⟨v196,rfl,ho0,hb⟩;refine ⟨_,rfl,?_⟩;have n0_:=Aside0.mk (Kd.R_lower (Kd.R_newB ho0 (g:=gb194) (o:=.cells #[.string (⟨#[]⟩ : ByteArray),.int .i64 0,.int .i64 0] 26 (0,0)) (Up.Kup BK194)) (keep_size (w:=w) (g:=g) (row:=none) (Up.Kp HK GW194)));have n1_:=Aside0.mk (IsS70.below (Ip1 HI0 NB0_194) hb);have n2_:=Up.KB BK194 hb;have n3_:=Aside0.mk (KeepBut.trans (Up.Kp HK GW194) (KeepBut.of_below hb g none) (.inl rfl));have n4_:=Aside0.mk (below_step (Up.Bt HB (IsS70.ge HI0.out) GE194) hb);clear HI0 BK194 HK HB;have HO197:=n0_;have HI0:=n1_;have BK194:=n2_;have HK:=n3_;have HB:=n4_;clear n0_ n1_ n2_ n3_ n4_;(try clear hb);(try clear hb2);(try clear hk);(try clear hi);(try clear ho0);obtain ⟨Ao41,co41,eo41⟩:=Kd.R_slice HO197.out;subst eo41) | ((with_reducible refine gate_callee (f:=42) rfl ?_);refine Up.gl (some 10) Tryd.func42 #[.pointer (some ⟨g,0,none⟩),.int .i64 (t195.length : Int)] ?_;(with_reducible refine (spec_l6Rd_pick.calls k g s0_0 s0_1 (t195.length : Int) t198 t199 w0 _ ?side1 ?side2 A3.out).mono ?_);(case side1 => repeat (first | (with_reducible first | exact HI0.out | apply IsS70.alloc | apply IsS70.drewN | apply IsS70.drew | apply IsS70.set_1 | refine IsS70.far ?_ NB0_194.out _) | exact HI0.out));(case side2 => repeat (first | (with_reducible first | exact HB.out | apply below_alloc | apply pw_below_drewN | apply below_drew1 | refine below_set ?_ (IsS70.ge HI0.out) | refine below_set ?_ GE194.out) | exact HB.out));rintro e w42 ⟨rfl,hi,hb,hk⟩;refine ⟨_,rfl,?_⟩;have n0_:=Aside0.mk (KeepBut.blk hk (g':=gb194) (o:=.cells #[.string (⟨#[]⟩ : ByteArray),.int .i64 0,.int .i64 0] 26 (0,0)) (Up.Kup BK194) NB194_0.out (by simp));have n1_:=Aside0.mk (Kd.R_mono (Kd.R_keep (IsS70.apart (show IsS70 w0 _ g s0_0 s0_1 from by repeat (first | (with_reducible first | exact HI0.out | apply IsS70.alloc | apply IsS70.drewN | apply IsS70.drew | apply IsS70.set_1 | refine IsS70.far ?_ NB0_194.out _) | exact HI0.out)) (Up.Rup HO197) (by decide)) hk (fun _ h => h.2)) (fun _ h => h.1));have n2_:=Aside0.mk (KeepBut.trans (Up.Kp HK GW194) hk (.inl rfl));have n3_:=Aside0.mk (hb);have n4_:=Aside0.mk (hi);clear BK194 HO197 HK HB HI0;have BK194:=n0_;have HO197:=n1_;have HK:=n2_;have HB:=n3_;have HI0:=n4_;clear n0_ n1_ n2_ n3_ n4_;(try clear hb);(try clear hb2);(try clear hk);(try clear hi);have p200 : 0 ≤ (t198 : Int):=Up.od;have q200 : t198 < (t195.length : Int):=Up.od;obtain ⟨ad200,e200,hx200_0,hx200_1,hx200_2⟩:=at_T26 (Kd.R_reads' HO197.out).2.2 t198 p200 q200;cases e200;replace p200:=eq_true p200;replace q200:=eq_true q200) | ((with_reducible refine gate_dst (N:=4) rfl ?_);refine Up.bx 4 26 #[.string (⟨#[]⟩ : ByteArray),.int .i64 0,.int .i64 0] ?_;intro gb201 hg w43 hbox hb;have n0_:=Aside0.mk (Kd.R_below (Kd.R_elderB (Up.Rup HO197) gb201 (Nat.le_of_eq hg.symm)) hb);have n1_:=Aside0.mk (IsS70.below (Ip1 HI0 NB0_194) hb);have n2_:=Up.KB BK194 hb;have n3_:=Aside0.mk (KeepBut.trans (Up.Kp HK GW194) (KeepBut.of_below hb g none) (.inl rfl));have n4_:=Aside0.mk (below_step (Up.Bt HB (IsS70.ge HI0.out) GE194) hb);have n5_:=Aside0.mk (hbox);have n6_:=Aside0.mk ((by rw [hg];exact (keep_size (w:=w) (g:=g) (row:=none) (Up.Kp HK GW194)) : w.heap.size ≤ gb201));have n7_:=Aside0.mk ((Nat.le_trans HW0.out (by rw [hg];exact (keep_size (w:=w) (g:=g) (row:=none) (Up.Kp HK GW194)) : w.heap.size ≤ gb201) : w0.heap.size ≤ gb201));have n8_:=Up.nl hg BK194;have n9_:=Up.ng hg BK194;have n10_:=Aside0.mk ((by rw [hg];exact Nat.ne_of_lt (IsS70.lt (show IsS70 w0 _ g s0_0 t199 from by repeat (first | (with_reducible first | exact HI0.out | apply IsS70.alloc | apply IsS70.drewN | apply IsS70.drew | apply IsS70.set_1 | refine IsS70.far ?_ NB0_194.out _) | exact HI0.out))) : g ≠ gb201));have n11_:=Aside0.mk ((by rw [hg];exact Nat.ne_of_gt (IsS70.lt (show IsS70 w0 _ g s0_0 t199 from by repeat (first | (with_reducible first | exact HI0.out | apply IsS70.alloc | apply IsS70.drewN | apply IsS70.drew | apply IsS70.set_1 | refine IsS70.far ?_ NB0_194.out _) | exact HI0.out))) : gb201 ≠ g));clear HO197 HI0 BK194 HK HB;have HO197:=n0_;have HI0:=n1_;have BK194:=n2_;have HK:=n3_;have HB:=n4_;have BK201:=n5_;have GW201:=n6_;have GE201:=n7_;have NB194_201:=n8_;have NB201_194:=n9_;have NB0_201:=n10_;have NB201_0:=n11_;clear n0_ n1_ n2_ n3_ n4_ n5_ n6_ n7_ n8_ n9_ n10_ n11_ hb hbox hg;have hnb44:=NB201_194.out;have hnc44:=NB194_201.out;have hnb45:=NB201_0.out;have hnc45:=NB0_201.out;have hcz46_0:=Up.c0 BK201;have hcz46_1:=Up.c1 BK201;have hcz46_2:=Up.c2 BK201;have hfz46_0:=blk_frozen BK201.out 0;have hfz46_1:=blk_frozen BK201.out 1;have hfz46_2:=blk_frozen BK201.out 2) | ((with_reducible refine gate_callee (f:=42) rfl ?_);refine Up.gl (some 28) Tryd.func42 #[.pointer (some ⟨g,0,none⟩),.int .i64 ((rd_T26 t195 t198).f2)] ?_;(with_reducible refine (spec_l6Rd_pick.calls k g s0_0 t199 ((rd_T26 t195 t198).f2) t206 t207 w0 _ ?side1 ?side2 A38.out).mono ?_);(case side1 => repeat (first | (with_reducible first | exact HI0.out | apply IsS70.alloc | apply IsS70.drewN | apply IsS70.drew | apply IsS70.set_1 | refine IsS70.far ?_ NB0_194.out _ | refine IsS70.far ?_ NB0_201.out _) | exact HI0.out));(case side2 => repeat (first | (with_reducible first | exact HB.out | apply below_alloc | apply pw_below_drewN | apply below_drew1 | refine below_set ?_ (IsS70.ge HI0.out) | refine below_set ?_ GE194.out | refine below_set ?_ GE201.out) | exact HB.out));rintro e w47 ⟨rfl,hi,hb,hk⟩;refine ⟨_,rfl,?_⟩;have n0_:=Aside0.mk (KeepBut.blk hk (g':=gb194) (o:=.cells #[.string (⟨#[]⟩ : ByteArray),.int .i64 0,.int .i64 0] 26 (0,0)) (Up.Kx BK194) NB194_0.out (by simp));have n1_:=Aside0.mk (Kd.R_mono (Kd.R_keep (IsS70.apart (show IsS70 w0 _ g s0_0 t199 from by repeat (first | (with_reducible first | exact HI0.out | apply IsS70.alloc | apply IsS70.drewN | apply IsS70.drew | apply IsS70.set_1 | refine IsS70.far ?_ NB0_194.out _ | refine IsS70.far ?_ NB0_201.out _) | exact HI0.out)) (by (with_reducible repeat (first | apply Kd.R_alloc | apply Kd.R_drewN | apply Kd.R_drew));exact (Kd.R_mono (Kd.R_far (p:=⟨gb201,2,none⟩) (Kd.R_far (p:=⟨gb201,1,none⟩) (Kd.R_far (p:=⟨gb201,0,none⟩) (Kd.R_mono HO197.out (fun k_ hk => (⟨hk,hk.2⟩ : _ ∧ k_ ≠ gb201))) (fun _ hk => hk.2) (.string ((rd_T26 t195 t198).f0))) (fun _ hk => hk.2) (.int .i64 ((rd_T26 t195 t198).f1))) (fun _ hk => hk.2) (.int .i64 ((rd_T26 t195 t198).f2))) (fun _ h_ => h_.1))) (by decide)) hk (fun _ h => h.2)) (fun _ h => h.1));have n2_:=Aside0.mk (KeepBut.blk hk (g':=gb201) (o:=.cells #[.string ((rd_T26 t195 t198).f0),.int .i64 ((rd_T26 t195 t198).f1),.int .i64 ((rd_T26 t195 t198).f2)] 26 (0,0)) (Up.Kx BK201) NB201_0.out (by simp));have n3_:=Aside0.mk (KeepBut.trans (by repeat (first | (with_reducible first | exact HK.out | apply KeepBut.set_ | apply keep_drewN | apply keep_drew | apply keep_alloc | refine keep_far ?_ GW194.out _ | refine keep_far ?_ GW201.out _) | exact HK.out)) hk (.inl rfl));have n4_:=Aside0.mk (hb);have n5_:=Aside0.mk (hi);clear BK194 HO197 BK201 HK HB HI0;have BK194:=n0_;have HO197:=n1_;have BK201:=n2_;have HK:=n3_;have HB:=n4_;have HI0:=n5_;clear n0_ n1_ n2_ n3_ n4_ n5_;(try clear hb);(try clear hb2);(try clear hk);(try clear hi);have hcz48_0:=Up.c0 BK201;have hcz48_1:=Up.c1 BK201;have hcz48_2:=Up.c2 BK201;have hfz48_0:=blk_frozen BK201.out 0;have hfz48_1:=blk_frozen BK201.out 1;have hfz48_2:=blk_frozen BK201.out 2;have hnb49:=NB194_0.out;have hnc49:=NB0_194.out;have hcz50_0:=Up.c0 BK194;have hcz50_1:=Up.c1 BK194;have hcz50_2:=Up.c2 BK194;have hfz50_0:=blk_frozen BK194.out 0;have hfz50_1:=blk_frozen BK194.out 1;have hfz50_2:=blk_frozen BK194.out 2))
     refine bodyPost_ret (results_cell_row rfl _ _ gb194 26 #[.string ((rd_T26 t195 t198).f0),.int .i64 ((rd_T26 t195 t198).f1),.int .i64 t206] (0,0) _ rfl (Up.Kx BK194) Tryd.underlying26 rfl (by kernel_rfl)) rfl ?_
     exact ⟨by first | rfl | (simp [errW_none,errW_some] <;> rfl) | (simp [*,errW_none,errW_some] <;> rfl),by repeat (first | (with_reducible first | exact HI0.out | apply IsS70.alloc | apply IsS70.drewN | apply IsS70.drew | apply IsS70.set_1 | refine IsS70.far ?_ NB0_194.out _ | refine IsS70.far ?_ NB0_201.out _) | exact HI0.out),by repeat (first | (with_reducible first | exact HB.out | apply below_alloc | apply pw_below_drewN | apply below_drew1 | refine below_set ?_ (IsS70.ge HI0.out) | refine below_set ?_ GE194.out | refine below_set ?_ GE201.out) | exact HB.out),by repeat (first | (with_reducible first | exact HK.out | apply KeepBut.set_ | apply keep_drewN | apply keep_drew | apply keep_alloc | refine keep_far ?_ GW194.out _ | refine keep_far ?_ GW201.out _) | exact HK.out)⟩
    ·rw [if_neg c37] at H
     have c37b0 : decide (0 < ((rd_T26 t195 t198).f2)) = false:=decide_eq_false c37
     clear c37
     simp only [Option.some.injEq,Prod.mk.injEq] at H
     obtain ⟨rfl,rfl,rfl,rfl⟩:=H
     go_enter Tryd.func41,Tryd.ntmps41
     go_wp2_with (first | ((with_reducible refine gate_dst (N:=2) rfl ?_);refine Up.bx 2 26 #[.string (⟨#[]⟩ : ByteArray),.int .i64 0,.int .i64 0] ?_;intro gb194 hg w51 hbox hb;have n0_:=Aside0.mk (IsS70.below (Ip0 HI0) hb);have n1_:=Aside0.mk (KeepBut.trans (Up.Kp0 HK) (KeepBut.of_below hb g none) (.inl rfl));have n2_:=Aside0.mk (below_step (Up.Bs HB (IsS70.ge HI0.out)) hb);have n3_:=Aside0.mk (hbox);have n4_:=Aside0.mk ((by rw [hg];exact (keep_size (w:=w) (g:=g) (row:=none) (Up.Kp0 HK)) : w.heap.size ≤ gb194));have n5_:=Aside0.mk ((Nat.le_trans HW0.out (by rw [hg];exact (keep_size (w:=w) (g:=g) (row:=none) (Up.Kp0 HK)) : w.heap.size ≤ gb194) : w0.heap.size ≤ gb194));have n6_:=Aside0.mk ((by rw [hg];exact Nat.ne_of_lt (IsS70.lt (show IsS70 w0 _ g s0_0 s0_1 from by repeat (first | (with_reducible first | exact HI0.out | apply IsS70.alloc | apply IsS70.drewN | apply IsS70.drew | apply IsS70.set_1) | exact HI0.out))) : g ≠ gb194));have n7_:=Aside0.mk ((by rw [hg];exact Nat.ne_of_gt (IsS70.lt (show IsS70 w0 _ g s0_0 s0_1 from by repeat (first | (with_reducible first | exact HI0.out | apply IsS70.alloc | apply IsS70.drewN | apply IsS70.drew | apply IsS70.set_1) | exact HI0.out))) : gb194 ≠ g));clear HI0 HK HB;have HI0:=n0_;have HK:=n1_;have HB:=n2_;have BK194:=n3_;have GW194:=n4_;have GE194:=n5_;have NB0_194:=n6_;have NB194_0:=n7_;clear n0_ n1_ n2_ n3_ n4_ n5_ n6_ n7_ hb hbox hg) | ((with_reducible refine gate_callee (f:=36) rfl ?_);refine Up.gl (some 5) Tryd.func36 #[] ?_;(with_reducible refine (spec_l3Table.calls  t195 _ A2.out).mono ?_);rintro e w52 ⟨v196,rfl,ho0,hb⟩;refine ⟨_,rfl,?_⟩;have n0_:=Aside0.mk (Kd.R_lower (Kd.R_newB ho0 (g:=gb194) (o:=.cells #[.string (⟨#[]⟩ : ByteArray),.int .i64 0,.int .i64 0] 26 (0,0)) (Up.Kup BK194)) (keep_size (w:=w) (g:=g) (row:=none) (Up.Kp HK GW194)));have n1_:=Aside0.mk (IsS70.below (Ip1 HI0 NB0_194) hb);have n2_:=Up.KB BK194 hb;have n3_:=Aside0.mk (KeepBut.trans (Up.Kp HK GW194) (KeepBut.of_below hb g none) (.inl rfl));have n4_:=Aside0.mk (below_step (Up.Bt HB (IsS70.ge HI0.out) GE194) hb);clear HI0 BK194 HK HB;have HO197:=n0_;have HI0:=n1_;have BK194:=n2_;have HK:=n3_;have HB:=n4_;clear n0_ n1_ n2_ n3_ n4_;(try clear hb);(try clear hb2);(try clear hk);(try clear hi);(try clear ho0);obtain ⟨Ao53,co53,eo53⟩:=Kd.R_slice HO197.out;subst eo53) | ((with_reducible refine gate_callee (f:=42) rfl ?_);refine Up.gl (some 10) Tryd.func42 #[.pointer (some ⟨g,0,none⟩),.int .i64 (t195.length : Int)] ?_;(with_reducible refine (spec_l6Rd_pick.calls k g s0_0 s0_1 (t195.length : Int) t198 t199 w0 _ ?side1 ?side2 A3.out).mono ?_);(case side1 => repeat (first | (with_reducible first | exact HI0.out | apply IsS70.alloc | apply IsS70.drewN | apply IsS70.drew | apply IsS70.set_1 | refine IsS70.far ?_ NB0_194.out _) | exact HI0.out));(case side2 => repeat (first | (with_reducible first | exact HB.out | apply below_alloc | apply pw_below_drewN | apply below_drew1 | refine below_set ?_ (IsS70.ge HI0.out) | refine below_set ?_ GE194.out) | exact HB.out));rintro e w54 ⟨rfl,hi,hb,hk⟩;refine ⟨_,rfl,?_⟩;have n0_:=Aside0.mk (KeepBut.blk hk (g':=gb194) (o:=.cells #[.string (⟨#[]⟩ : ByteArray),.int .i64 0,.int .i64 0] 26 (0,0)) (Up.Kup BK194) NB194_0.out (by simp));have n1_:=Aside0.mk (Kd.R_mono (Kd.R_keep (IsS70.apart (show IsS70 w0 _ g s0_0 s0_1 from by repeat (first | (with_reducible first | exact HI0.out | apply IsS70.alloc | apply IsS70.drewN | apply IsS70.drew | apply IsS70.set_1 | refine IsS70.far ?_ NB0_194.out _) | exact HI0.out)) (Up.Rup HO197) (by decide)) hk (fun _ h => h.2)) (fun _ h => h.1));have n2_:=Aside0.mk (KeepBut.trans (Up.Kp HK GW194) hk (.inl rfl));have n3_:=Aside0.mk (hb);have n4_:=Aside0.mk (hi);clear BK194 HO197 HK HB HI0;have BK194:=n0_;have HO197:=n1_;have HK:=n2_;have HB:=n3_;have HI0:=n4_;clear n0_ n1_ n2_ n3_ n4_;(try clear hb);(try clear hb2);(try clear hk);(try clear hi);have p200 : 0 ≤ (t198 : Int):=Up.od;have q200 : t198 < (t195.length : Int):=Up.od;obtain ⟨ad200,e200,hx200_0,hx200_1,hx200_2⟩:=at_T26 (Kd.R_reads' HO197.out).2.2 t198 p200 q200;cases e200;replace p200:=eq_true p200;replace q200:=eq_true q200) | ((with_reducible refine gate_dst (N:=4) rfl ?_);refine Up.bx 4 26 #[.string (⟨#[]⟩ : ByteArray),.int .i64 0,.int .i64 0] ?_;intro gb201 hg w55 hbox hb;have n0_:=Aside0.mk (Kd.R_below (Kd.R_elderB (Up.Rup HO197) gb201 (Nat.le_of_eq hg.symm)) hb);have n1_:=Aside0.mk (IsS70.below (Ip1 HI0 NB0_194) hb);have n2_:=Up.KB BK194 hb;have n3_:=Aside0.mk (KeepBut.trans (Up.Kp HK GW194) (KeepBut.of_below hb g none) (.inl rfl));have n4_:=Aside0.mk (below_step (Up.Bt HB (IsS70.ge HI0.out) GE194) hb);have n5_:=Aside0.mk (hbox);have n6_:=Aside0.mk ((by rw [hg];exact (keep_size (w:=w) (g:=g) (row:=none) (Up.Kp HK GW194)) : w.heap.size ≤ gb201));have n7_:=Aside0.mk ((Nat.le_trans HW0.out (by rw [hg];exact (keep_size (w:=w) (g:=g) (row:=none) (Up.Kp HK GW194)) : w.heap.size ≤ gb201) : w0.heap.size ≤ gb201));have n8_:=Up.nl hg BK194;have n9_:=Up.ng hg BK194;have n10_:=Aside0.mk ((by rw [hg];exact Nat.ne_of_lt (IsS70.lt (show IsS70 w0 _ g s0_0 t199 from by repeat (first | (with_reducible first | exact HI0.out | apply IsS70.alloc | apply IsS70.drewN | apply IsS70.drew | apply IsS70.set_1 | refine IsS70.far ?_ NB0_194.out _) | exact HI0.out))) : g ≠ gb201));have n11_:=Aside0.mk ((by rw [hg];exact Nat.ne_of_gt (IsS70.lt (show IsS70 w0 _ g s0_0 t199 from by repeat (first | (with_reducible first | exact HI0.out | apply IsS70.alloc | apply IsS70.drewN | apply IsS70.drew | apply IsS70.set_1 | refine IsS70.far ?_ NB0_194.out _) | exact HI0.out))) : gb201 ≠ g));clear HO197 HI0 BK194 HK HB;have HO197:=n0_;have HI0:=n1_;have BK194:=n2_;have HK:=n3_;have HB:=n4_;have BK201:=n5_;have GW201:=n6_;have GE201:=n7_;have NB194_201:=n8_;have NB201_194:=n9_;have NB0_201:=n10_;have NB201_0:=n11_;clear n0_ n1_ n2_ n3_ n4_ n5_ n6_ n7_ n8_ n9_ n10_ n11_ hb hbox hg;have hnb56:=NB201_194.out;have hnc56:=NB194_201.out;have hnb57:=NB201_0.out;have hnc57:=NB0_201.out;have hcz58_0:=Up.c0 BK201;have hcz58_1:=Up.c1 BK201;have hcz58_2:=Up.c2 BK201;have hfz58_0:=blk_frozen BK201.out 0;have hfz58_1:=blk_frozen BK201.out 1;have hfz58_2:=blk_frozen BK201.out 2;have hnb59:=NB194_0.out;have hnc59:=NB0_194.out;have hcz60_0:=Up.c0 BK194;have hcz60_1:=Up.c1 BK194;have hcz60_2:=Up.c2 BK194;have hfz60_0:=blk_frozen BK194.out 0;have hfz60_1:=blk_frozen BK194.out 1;have hfz60_2:=blk_frozen BK194.out 2))
     refine bodyPost_ret (results_cell_row rfl _ _ gb194 26 #[.string ((rd_T26 t195 t198).f0),.int .i64 ((rd_T26 t195 t198).f1),.int .i64 ((rd_T26 t195 t198).f2)] (0,0) _ rfl (Up.Kx BK194) Tryd.underlying26 rfl (by kernel_rfl)) rfl ?_
     exact ⟨by first | rfl | (simp [errW_none,errW_some] <;> rfl) | (simp [*,errW_none,errW_some] <;> rfl),by repeat (first | (with_reducible first | exact HI0.out | apply IsS70.alloc | apply IsS70.drewN | apply IsS70.drew | apply IsS70.set_1 | refine IsS70.far ?_ NB0_194.out _ | refine IsS70.far ?_ NB0_201.out _) | exact HI0.out),by repeat (first | (with_reducible first | exact HB.out | apply below_alloc | apply pw_below_drewN | apply below_drew1 | refine below_set ?_ (IsS70.ge HI0.out) | refine below_set ?_ GE194.out | refine below_set ?_ GE201.out) | exact HB.out),by repeat (first | (with_reducible first | exact HK.out | apply KeepBut.set_ | apply keep_drewN | apply keep_drew | apply keep_alloc | refine keep_far ?_ GW194.out _ | refine keep_far ?_ GW201.out _) | exact HK.out)⟩
  ·rw [if_neg c5] at H
   exact absurd H (by simp)
 ·rw [if_neg c4] at H
  exact absurd H (by simp)

/-! ### spec_l91Num: function 43 -/
def spec_l91Num.f (k : Nat) (s0_0 : List Int) (s0_1 : Int) (l1 : List Int) : Option (Int × Int):=(spec_l6Rd_pick.f k s0_0 s0_1 (l1.length : Int)).bind fun bt208 => (if 0 ≤ bt208.1 then (if bt208.1 < (l1.length : Int) then (some (rd l1 bt208.1,bt208.2)) else (none)) else (none))
theorem spec_l91Num.mono : ∀ a0 a1 a2 k,LeO (spec_l91Num.f k a0 a1 a2) (spec_l91Num.f (k + 1) a0 a1 a2):=by
 intro a0 a1 a2 k
 unfold spec_l91Num.f
 repeat' first
   | (with_reducible exact spec_l6Rd_pick.mono _ _ _ _)
   | (with_reducible exact LeO.refl _)
   | (with_reducible exact LeO.none _)
   | (with_reducible refine LeO.ite ?_ ?_)
   | (with_reducible refine LeO.bind ?_ (fun _ => ?_))
   | exact spec_l6Rd_pick.mono _ _ _ _
   | exact LeO.none _
   | refine LeO.ite ?_ ?_
   | refine LeO.bind ?_ (fun _ => ?_)
set_option maxHeartbeats 8000000 in
set_option maxRecDepth 100000 in
theorem spec_l91Num.calls (k : Nat) (g : Nat) (s0_0 : List Int) (s0_1 : Int) (A1 : Option Addr) (c1 : Nat) (l1 : List Int) (r1 : Int) (r2 : Int) (w0 w : World) (hI : IsS70 w0 w g s0_0 s0_1) (hB : Below w0.heap.size w0 w) (hr1 : Kd.C (Kd.int .i64) w A1 l1.length l1) (hc1 : l1.length ≤ c1) (hf1 : ∀ ad,A1 = some ad → 0 < l1.length → ad.block ≠ g) (h : spec_l91Num.f k s0_0 s0_1 l1 = some (r1,r2)) :
  Calls Tryd.prog 43 #[.pointer (some ⟨g,0,none⟩),.slice A1 l1.length c1] w fun e w' => e = .returned (.int .i64 r1) ∧ IsS70 w0 w' g s0_0 r2 ∧ Below w0.heap.size w0 w' ∧ KeepBut w w' g none:=by
 have HR1:=Aside0.mk hr1
 have HC1:=Aside0.mk hc1
 clear hr1 hc1
 have HI0:=Aside0.mk hI
 have HK:=Aside0.mk (KeepBut.refl w g none)
 have HL:=Aside0.mk hB.size
 clear hI
 have HW0:=Aside0.mk hB.size
 have HB:=Aside0.mk hB
 clear hB
 have H : ((spec_l6Rd_pick.f k s0_0 s0_1 (l1.length : Int)).bind fun bt208 => (if 0 ≤ bt208.1 then (if bt208.1 < (l1.length : Int) then (some (rd l1 bt208.1,bt208.2)) else (none)) else (none))) = some (r1,r2):=h
 clear h
 replace H:=Option.bind_eq_some_iff.mp H
 obtain ⟨⟨t208,t209⟩,A30,H⟩:=H
 replace H : (if 0 ≤ t208 then (if t208 < (l1.length : Int) then (some (rd l1 t208,t209)) else (none)) else (none)) = some (r1,r2):=H
 have A3:=Aside0.mk A30
 clear A30
 by_cases c4 : 0 ≤ t208
 ·rw [if_pos c4] at H
  have c4b0 : decide (0 ≤ t208) = true:=decide_eq_true c4
  clear c4
  by_cases c5 : t208 < (l1.length : Int)
  ·rw [if_pos c5] at H
   have c5b0 : decide (t208 < (l1.length : Int)) = true:=decide_eq_true c5
   clear c5
   simp only [Option.some.injEq,Prod.mk.injEq] at H
   obtain ⟨rfl,rfl⟩:=H
   go_enter Tryd.func43,Tryd.ntmps43
   go_wp2_with (first | ((with_reducible refine gate_callee (f:=42) rfl ?_);refine Up.gl (some 9) Tryd.func42 #[.pointer (some ⟨g,0,none⟩),.int .i64 (l1.length : Int)] ?_;(with_reducible refine (spec_l6Rd_pick.calls k g s0_0 s0_1 (l1.length : Int) t208 t209 w0 _ ?side1 ?side2 A3.out).mono ?_);(case side1 => repeat (first | (with_reducible first | exact HI0.out | apply IsS70.alloc | apply IsS70.drewN | apply IsS70.drew | apply IsS70.set_1) | exact HI0.out));(case side2 => repeat (first | (with_reducible first | exact HB.out | apply below_alloc | apply pw_below_drewN | apply below_drew1 | refine below_set ?_ (IsS70.ge HI0.out)) | exact HB.out));rintro e w6 ⟨rfl,hi,hb,hk⟩;refine ⟨_,rfl,?_⟩;have n0_:=Aside0.mk (KeepBut.trans (Up.Kp0 HK) hk (.inl rfl));have n1_:=Aside0.mk (hb);have n2_:=Aside0.mk (hi);clear HK HB HI0;have HK:=n0_;have HB:=n1_;have HI0:=n2_;clear n0_ n1_ n2_;(try clear hb);(try clear hb2);(try clear hk);(try clear hi);have p210 : 0 ≤ (t208 : Int):=Up.od;have q210 : t208 < (l1.length : Int):=Up.od;obtain ⟨ad210,e210,hx210_0⟩:=Kd.at_int HR1.out t208 p210 q210;cases e210;replace hx210_0:=keep_cell HK.out hx210_0 (by first | (rw [add_block];exact hf1 _ rfl (by omega)) | exact hf1 _ rfl (by omega) | exact hf1 ad210 rfl (by omega));replace p210:=eq_true p210;replace q210:=eq_true q210))
   go_ret
   exact ⟨by first | rfl | (simp [errW_none,errW_some] <;> rfl) | (simp [*,errW_none,errW_some] <;> rfl),by repeat (first | (with_reducible first | exact HI0.out | apply IsS70.alloc | apply IsS70.drewN | apply IsS70.drew | apply IsS70.set_1) | exact HI0.out),by repeat (first | (with_reducible first | exact HB.out | apply below_alloc | apply pw_below_drewN | apply below_drew1 | refine below_set ?_ (IsS70.ge HI0.out)) | exact HB.out),by repeat (first | (with_reducible first | exact HK.out | apply KeepBut.set_ | apply keep_drewN | apply keep_drew | apply keep_alloc) | exact HK.out)⟩
  ·rw [if_neg c5] at H
   exact absurd H (by simp)
 ·rw [if_neg c4] at H
  exact absurd H (by simp)

/-! ### spec_l6Rd_of: function 44 -/
def spec_l6Rd_of.f (k : Nat) (s0_0 : List Int) (s0_1 : Int) (l1 : List ByteArray) : Option (ByteArray × Int):=(spec_l6Rd_pick.f k s0_0 s0_1 (l1.length : Int)).bind fun bt211 => (if 0 ≤ bt211.1 then (if bt211.1 < (l1.length : Int) then (some (rdOf ByteArray.empty l1 bt211.1,bt211.2)) else (none)) else (none))
theorem spec_l6Rd_of.mono : ∀ a0 a1 a2 k,LeO (spec_l6Rd_of.f k a0 a1 a2) (spec_l6Rd_of.f (k + 1) a0 a1 a2):=by
 intro a0 a1 a2 k
 unfold spec_l6Rd_of.f
 repeat' first
   | (with_reducible exact spec_l6Rd_pick.mono _ _ _ _)
   | (with_reducible exact LeO.refl _)
   | (with_reducible exact LeO.none _)
   | (with_reducible refine LeO.ite ?_ ?_)
   | (with_reducible refine LeO.bind ?_ (fun _ => ?_))
   | exact spec_l6Rd_pick.mono _ _ _ _
   | exact LeO.none _
   | refine LeO.ite ?_ ?_
   | refine LeO.bind ?_ (fun _ => ?_)
set_option maxHeartbeats 8000000 in
set_option maxRecDepth 100000 in
theorem spec_l6Rd_of.calls (k : Nat) (g : Nat) (s0_0 : List Int) (s0_1 : Int) (A1 : Option Addr) (c1 : Nat) (l1 : List ByteArray) (r1 : ByteArray) (r2 : Int) (w0 w : World) (hI : IsS70 w0 w g s0_0 s0_1) (hB : Below w0.heap.size w0 w) (hr1 : Kd.C Kd.string w A1 l1.length l1) (hc1 : l1.length ≤ c1) (hf1 : ∀ ad,A1 = some ad → 0 < l1.length → ad.block ≠ g) (h : spec_l6Rd_of.f k s0_0 s0_1 l1 = some (r1,r2)) :
  Calls Tryd.prog 44 #[.pointer (some ⟨g,0,none⟩),.slice A1 l1.length c1] w fun e w' => e = .returned (.string r1) ∧ IsS70 w0 w' g s0_0 r2 ∧ Below w0.heap.size w0 w' ∧ KeepBut w w' g none:=by
 have HR1:=Aside0.mk hr1
 have HC1:=Aside0.mk hc1
 clear hr1 hc1
 have HI0:=Aside0.mk hI
 have HK:=Aside0.mk (KeepBut.refl w g none)
 have HL:=Aside0.mk hB.size
 clear hI
 have HW0:=Aside0.mk hB.size
 have HB:=Aside0.mk hB
 clear hB
 have H : ((spec_l6Rd_pick.f k s0_0 s0_1 (l1.length : Int)).bind fun bt211 => (if 0 ≤ bt211.1 then (if bt211.1 < (l1.length : Int) then (some (rdOf ByteArray.empty l1 bt211.1,bt211.2)) else (none)) else (none))) = some (r1,r2):=h
 clear h
 replace H:=Option.bind_eq_some_iff.mp H
 obtain ⟨⟨t211,t212⟩,A30,H⟩:=H
 replace H : (if 0 ≤ t211 then (if t211 < (l1.length : Int) then (some (rdOf ByteArray.empty l1 t211,t212)) else (none)) else (none)) = some (r1,r2):=H
 have A3:=Aside0.mk A30
 clear A30
 by_cases c4 : 0 ≤ t211
 ·rw [if_pos c4] at H
  have c4b0 : decide (0 ≤ t211) = true:=decide_eq_true c4
  clear c4
  by_cases c5 : t211 < (l1.length : Int)
  ·rw [if_pos c5] at H
   have c5b0 : decide (t211 < (l1.length : Int)) = true:=decide_eq_true c5
   clear c5
   simp only [Option.some.injEq,Prod.mk.injEq] at H
   obtain ⟨rfl,rfl⟩:=H
   go_enter Tryd.func44,Tryd.ntmps44
   go_wp2_with (first | ((with_reducible refine gate_callee (f:=42) rfl ?_);refine Up.gl (some 9) Tryd.func42 #[.pointer (some ⟨g,0,none⟩),.int .i64 (l1.length : Int)] ?_;(with_reducible refine (spec_l6Rd_pick.calls k g s0_0 s0_1 (l1.length : Int) t211 t212 w0 _ ?side1 ?side2 A3.out).mono ?_);(case side1 => repeat (first | (with_reducible first | exact HI0.out | apply IsS70.alloc | apply IsS70.drewN | apply IsS70.drew | apply IsS70.set_1) | exact HI0.out));(case side2 => repeat (first | (with_reducible first | exact HB.out | apply below_alloc | apply pw_below_drewN | apply below_drew1 | refine below_set ?_ (IsS70.ge HI0.out)) | exact HB.out));rintro e w6 ⟨rfl,hi,hb,hk⟩;refine ⟨_,rfl,?_⟩;have n0_:=Aside0.mk (KeepBut.trans (Up.Kp0 HK) hk (.inl rfl));have n1_:=Aside0.mk (hb);have n2_:=Aside0.mk (hi);clear HK HB HI0;have HK:=n0_;have HB:=n1_;have HI0:=n2_;clear n0_ n1_ n2_;(try clear hb);(try clear hb2);(try clear hk);(try clear hi);have p213 : 0 ≤ (t211 : Int):=Up.od;have q213 : t211 < (l1.length : Int):=Up.od;obtain ⟨ad213,e213,hx213_0⟩:=Kd.at_string HR1.out t211 p213 q213;cases e213;replace hx213_0:=keep_cell HK.out hx213_0 (by first | (rw [add_block];exact hf1 _ rfl (by omega)) | exact hf1 _ rfl (by omega) | exact hf1 ad213 rfl (by omega));replace p213:=eq_true p213;replace q213:=eq_true q213))
   go_ret
   exact ⟨by first | rfl | (simp [errW_none,errW_some] <;> rfl) | (simp [*,errW_none,errW_some] <;> rfl),by repeat (first | (with_reducible first | exact HI0.out | apply IsS70.alloc | apply IsS70.drewN | apply IsS70.drew | apply IsS70.set_1) | exact HI0.out),by repeat (first | (with_reducible first | exact HB.out | apply below_alloc | apply pw_below_drewN | apply below_drew1 | refine below_set ?_ (IsS70.ge HI0.out)) | exact HB.out),by repeat (first | (with_reducible first | exact HK.out | apply KeepBut.set_ | apply keep_drewN | apply keep_drew | apply keep_alloc) | exact HK.out)⟩
  ·rw [if_neg c5] at H
   exact absurd H (by simp)
 ·rw [if_neg c4] at H
  exact absurd H (by simp)

end Go.Proofs.YtfkhjnmgaadomaaDoor.OFnInsOk
