-- Laid by a program of this session (wip/myprint.py): the kit's print of the functions, contracts of our own among them.
import Derived.Test.YtdgmlakgnbmbbaaOFnExactValueReadx0
import Derived.Test.YtdgmlakgnbmbbaaOFnExactValueReadx3
namespace Go.Proofs.Ytdgmlakgnbmbbaa.OFnExactValueRead
open Go.RowKit Go.Proofs.YtdgmlakgnbmbbaaW.PrintWords Go.Proofs.YtdgmlakgnbmbbaaW.PrintLast Go.Proofs.YtdgmlakgnbmbbaaW.PrintMore
attribute [local go_sem] max2_int min2_int max_two min_two max_three min_three max_four min_four   -- for this text's walks alone
set_option linter.unusedVariables false
set_option linter.unusedSimpArgs false

/-! ### impl_valueReader_value: function 78 -/
mutual
def impl_valueReader_value.j0 : Nat → Bool → List (List (S113)) → ByteArray → Int → Option (ByteArray × Int × (List (S27)) × List Int × Bool × ByteArray × Int)
 | 0,_,_,_,_ => none
 | k + 1,x31,x1000,x1001,x1002 => if x31 = true then (if 0 ≤ x1002 then (if x1002 ≤ (wrap64 (x1002 + 3)) then (if (wrap64 (x1002 + 3)) ≤ (x1001.size : Int) then ((impl_valueReader_sees.f x1000 x1001 (wrap64 (x1002 + 3)) (⟨#[40]⟩ : ByteArray)).bind fun bt376 => (if bt376.1 = true then ((impl_recordOf.f x1000 (x1001.extract (x1002 : Int).toNat ((wrap64 (x1002 + 3)) : Int).toNat)).bind fun bt379 => (impl_valueReader_value.l0 k (bt379.2.length : Int) 0 x1000 bt376.2.1 bt376.2.2 (x1001.extract (x1002 : Int).toNat ((wrap64 (x1002 + 3)) : Int).toNat) 0 ([] : List (S27)))) else (some (x1001.extract (x1002 : Int).toNat ((wrap64 (x1002 + 3)) : Int).toNat,0,([] : List (S27)),([] : List Int),false,bt376.2.1,bt376.2.2)))) else (none)) else (none)) else (none)) else ((impl_valueReader_number.f k x1000 x1001 x1002).bind fun bt404 => (some ((⟨#[110]⟩ : ByteArray),bt404.1,([] : List (S27)),([] : List Int),bt404.2.1,bt404.2.2.1,bt404.2.2.2)))
def impl_valueReader_value.l0 : Nat → Int → Int → List (List (S113)) → ByteArray → Int → ByteArray → Int → List (S27) → Option (ByteArray × Int × (List (S27)) × List Int × Bool × ByteArray × Int)
 | 0,_,_,_,_,_,_,_,_ => none
 | k + 1,x98,x99,x1000,x1001,x1002,x376000,x376001,x376002 => if x99 < x98 then (if x99 > 0 then ((impl_valueReader_sees.f x1000 x1001 x1002 (⟨#[32]⟩ : ByteArray)).bind fun bt386 => (impl_valueReader_value.j2 k x98 x99 (!bt386.1) x1000 bt386.2.1 bt386.2.2 x376000 x376001 x376002)) else (impl_valueReader_value.j2 k x98 x99 false x1000 x1001 x1002 x376000 x376001 x376002)) else ((impl_valueReader_sees.f x1000 x1001 x1002 (⟨#[41]⟩ : ByteArray)).bind fun bt383 => (some (x376000,x376001,x376002,([] : List Int),bt383.1,bt383.2.1,bt383.2.2)))
def impl_valueReader_value.j2 : Nat → Int → Int → Bool → List (List (S113)) → ByteArray → Int → ByteArray → Int → List (S27) → Option (ByteArray × Int × (List (S27)) × List Int × Bool × ByteArray × Int)
 | 0,_,_,_,_,_,_,_,_,_ => none
 | k + 1,x98,x99,x108,x1000,x1001,x1002,x376000,x376001,x376002 => if x108 = true then (some (x376000,x376001,x376002,([] : List Int),false,x1001,x1002)) else ((impl_valueReader_value.f k x1000 x1001 x1002).bind fun bt389 => (if bt389.2.2.2.2.1 = true then (if x376002.length < 1954687338268 then (impl_valueReader_value.l0 k x98 (wrap64 (x99 + 1)) x1000 bt389.2.2.2.2.2.1 bt389.2.2.2.2.2.2 x376000 x376001 (x376002 ++ [(⟨bt389.1,bt389.2.1,bt389.2.2.1,bt389.2.2.2.1⟩ : S27)])) else (none)) else (some (x376000,x376001,x376002,([] : List Int),false,bt389.2.2.2.2.2.1,bt389.2.2.2.2.2.2))))
def impl_valueReader_value.f : Nat → List (List (S113)) → ByteArray → Int → Option (ByteArray × Int × (List (S27)) × List Int × Bool × ByteArray × Int)
 | 0,_,_,_ => none
 | k + 1,s0_0,s0_1,s0_2 => (impl_valueReader_sees.f s0_0 s0_1 s0_2 (⟨#[45]⟩ : ByteArray)).bind fun bt361 => (if bt361.1 = true then (some ((⟨#[98]⟩ : ByteArray),0,([] : List (S27)),([] : List Int),true,bt361.2.1,bt361.2.2)) else ((impl_valueReader_sees.f s0_0 bt361.2.1 bt361.2.2 (⟨#[43]⟩ : ByteArray)).bind fun bt364 => (if bt364.1 = true then (some ((⟨#[98]⟩ : ByteArray),1,([] : List (S27)),([] : List Int),true,bt364.2.1,bt364.2.2)) else ((impl_valueReader_sees.f s0_0 bt364.2.1 bt364.2.2 (⟨#[64]⟩ : ByteArray)).bind fun bt367 => (if bt367.1 = true then ((impl_valueReader_number.f k s0_0 bt367.2.1 bt367.2.2).bind fun bt370 => (some ((⟨#[111]⟩ : ByteArray),bt370.1,([] : List (S27)),([] : List Int),bt370.2.1,bt370.2.2.1,bt370.2.2.2))) else (if (wrap64 (bt367.2.2 + 3)) < (bt367.2.1.size : Int) then (if 0 ≤ bt367.2.2 then (if bt367.2.2 ≤ (wrap64 (bt367.2.2 + 3)) then (if (wrap64 (bt367.2.2 + 3)) ≤ (bt367.2.1.size : Int) then ((impl_kindIn.f s0_0 (bt367.2.1.extract (bt367.2.2 : Int).toNat ((wrap64 (bt367.2.2 + 3)) : Int).toNat)).bind fun t374 => (impl_valueReader_value.j0 k t374 s0_0 bt367.2.1 bt367.2.2)) else (none)) else (none)) else (none)) else (impl_valueReader_value.j0 k false s0_0 bt367.2.1 bt367.2.2)))))))
end
theorem impl_valueReader_value.mono_l : ∀ k,(∀ y0 y1 y2,LeO (impl_valueReader_value.f k y0 y1 y2) (impl_valueReader_value.f (k + 1) y0 y1 y2)) ∧ (∀ y0 y1 y2 y3,LeO (impl_valueReader_value.j0 k y0 y1 y2 y3) (impl_valueReader_value.j0 (k + 1) y0 y1 y2 y3)) ∧ (∀ y0 y1 y2 y3 y4 y5 y6 y7,LeO (impl_valueReader_value.l0 k y0 y1 y2 y3 y4 y5 y6 y7) (impl_valueReader_value.l0 (k + 1) y0 y1 y2 y3 y4 y5 y6 y7)) ∧ (∀ y0 y1 y2 y3 y4 y5 y6 y7 y8,LeO (impl_valueReader_value.j2 k y0 y1 y2 y3 y4 y5 y6 y7 y8) (impl_valueReader_value.j2 (k + 1) y0 y1 y2 y3 y4 y5 y6 y7 y8))
 | 0 => ⟨fun _ _ _ r h => by simp [impl_valueReader_value.f] at h,fun _ _ _ _ r h => by simp [impl_valueReader_value.j0] at h,fun _ _ _ _ _ _ _ _ r h => by simp [impl_valueReader_value.l0] at h,fun _ _ _ _ _ _ _ _ _ r h => by simp [impl_valueReader_value.j2] at h⟩
 | k + 1 => by
  obtain ⟨ih0,ih1,ih2,ih3⟩:=impl_valueReader_value.mono_l k;refine ⟨?_,?_,?_,?_⟩
  ·intro y0 y1 y2;unfold impl_valueReader_value.f;repeat' first
   | (with_reducible exact ih0 _ _ _)
   | (with_reducible exact ih1 _ _ _ _)
   | (with_reducible exact ih2 _ _ _ _ _ _ _ _)
   | (with_reducible exact ih3 _ _ _ _ _ _ _ _ _)
   | (with_reducible exact impl_valueReader_number.mono _ _ _ _)
   | (with_reducible exact LeO.refl _)
   | (with_reducible exact LeO.none _)
   | (with_reducible refine LeO.ite ?_ ?_)
   | (with_reducible refine LeO.bind ?_ (fun _ => ?_))
   | exact ih0 _ _ _
   | exact ih1 _ _ _ _
   | exact ih2 _ _ _ _ _ _ _ _
   | exact ih3 _ _ _ _ _ _ _ _ _
   | exact impl_valueReader_number.mono _ _ _ _
   | exact LeO.none _
   | refine LeO.ite ?_ ?_
   | refine LeO.bind ?_ (fun _ => ?_)
  ·intro y0 y1 y2 y3;unfold impl_valueReader_value.j0;repeat' first
   | (with_reducible exact ih0 _ _ _)
   | (with_reducible exact ih1 _ _ _ _)
   | (with_reducible exact ih2 _ _ _ _ _ _ _ _)
   | (with_reducible exact ih3 _ _ _ _ _ _ _ _ _)
   | (with_reducible exact impl_valueReader_number.mono _ _ _ _)
   | (with_reducible exact LeO.refl _)
   | (with_reducible exact LeO.none _)
   | (with_reducible refine LeO.ite ?_ ?_)
   | (with_reducible refine LeO.bind ?_ (fun _ => ?_))
   | exact ih0 _ _ _
   | exact ih1 _ _ _ _
   | exact ih2 _ _ _ _ _ _ _ _
   | exact ih3 _ _ _ _ _ _ _ _ _
   | exact impl_valueReader_number.mono _ _ _ _
   | exact LeO.none _
   | refine LeO.ite ?_ ?_
   | refine LeO.bind ?_ (fun _ => ?_)
  ·intro y0 y1 y2 y3 y4 y5 y6 y7;unfold impl_valueReader_value.l0;repeat' first
   | (with_reducible exact ih0 _ _ _)
   | (with_reducible exact ih1 _ _ _ _)
   | (with_reducible exact ih2 _ _ _ _ _ _ _ _)
   | (with_reducible exact ih3 _ _ _ _ _ _ _ _ _)
   | (with_reducible exact impl_valueReader_number.mono _ _ _ _)
   | (with_reducible exact LeO.refl _)
   | (with_reducible exact LeO.none _)
   | (with_reducible refine LeO.ite ?_ ?_)
   | (with_reducible refine LeO.bind ?_ (fun _ => ?_))
   | exact ih0 _ _ _
   | exact ih1 _ _ _ _
   | exact ih2 _ _ _ _ _ _ _ _
   | exact ih3 _ _ _ _ _ _ _ _ _
   | exact impl_valueReader_number.mono _ _ _ _
   | exact LeO.none _
   | refine LeO.ite ?_ ?_
   | refine LeO.bind ?_ (fun _ => ?_)
  ·intro y0 y1 y2 y3 y4 y5 y6 y7 y8;unfold impl_valueReader_value.j2;repeat' first
   | (with_reducible exact ih0 _ _ _)
   | (with_reducible exact ih1 _ _ _ _)
   | (with_reducible exact ih2 _ _ _ _ _ _ _ _)
   | (with_reducible exact ih3 _ _ _ _ _ _ _ _ _)
   | (with_reducible exact impl_valueReader_number.mono _ _ _ _)
   | (with_reducible exact LeO.refl _)
   | (with_reducible exact LeO.none _)
   | (with_reducible refine LeO.ite ?_ ?_)
   | (with_reducible refine LeO.bind ?_ (fun _ => ?_))
   | exact ih0 _ _ _
   | exact ih1 _ _ _ _
   | exact ih2 _ _ _ _ _ _ _ _
   | exact ih3 _ _ _ _ _ _ _ _ _
   | exact impl_valueReader_number.mono _ _ _ _
   | exact LeO.none _
   | refine LeO.ite ?_ ?_
   | refine LeO.bind ?_ (fun _ => ?_)
theorem impl_valueReader_value.mono : ∀ a0 a1 a2 k,LeO (impl_valueReader_value.f k a0 a1 a2) (impl_valueReader_value.f (k + 1) a0 a1 a2):=by
 intro a0 a1 a2 k;obtain ⟨ih0,ih1,ih2,ih3⟩:=impl_valueReader_value.mono_l k;exact ih0 a0 a1 a2
def impl_valueReader_value.T8 : Bool × List (List Nat × List Nat):=(true,[([],[]),([0],[0]),([1],[1]),([2],[2]),([3],[3]),([],[]),([5],[5]),([6],[6]),([7],[7]),([8],[8]),([4,9],[4,9]),([10],[10]),([11],[11]),([12,11],[11,12]),([13,11],[11,13]),([14,11],[11,14]),([11],[11]),([16,11],[11,16]),([17,11],[11,17]),([18,11],[11,18]),([11],[11]),([20,11],[11,20]),([21,11],[11,21]),([22,11],[11,22]),([11],[11]),([24,11],[11,24]),([25,11],[11,25]),([26,11],[11,26]),([27,11],[11,27]),([19,23,28,11],[11,19,23,28]),([15,29,11,11],[11,15,29]),([11,30],[11,30]),([31,30],[31])])
def impl_valueReader_value.B8 : List Nat:=[0,1,3,7,15,0,32,96,224,480,1023,2047,4095,8191,16383,32767,4095,69631,200703,462847,4095,1052671,3149823,7344127,4095,16781311,50335743,117444607,251662335,536809471,1073741823,2147483647,4294967295]
theorem impl_valueReader_value.tab8 : rtab .any (opsOf Try.f78 8) = impl_valueReader_value.T8:=by kernel_rfl
theorem impl_valueReader_value.bits8 : waitsOk impl_valueReader_value.T8.2 impl_valueReader_value.B8 = true:=by kernel_rfl
def impl_valueReader_value.T9 : Bool × List (List Nat × List Nat):=(true,[([],[]),([0],[0]),([1],[1]),([2],[2]),([],[]),([4],[4]),([5],[5]),([6],[6]),([],[]),([8],[8]),([9],[9]),([10],[10]),([11],[11]),([3,7,12],[3,7,12]),([13],[13]),([],[]),([15,14,0,1,2,3,4,5,6,7,8,9,10,11,12,13,14,15],[14,15])])
def impl_valueReader_value.B9 : List Nat:=[0,1,3,7,0,16,48,112,0,256,768,1792,3840,8191,16383,0,65535]
theorem impl_valueReader_value.tab9 : rtab .any (opsOf Try.f78 9) = impl_valueReader_value.T9:=by kernel_rfl
theorem impl_valueReader_value.bits9 : waitsOk impl_valueReader_value.T9.2 impl_valueReader_value.B9 = true:=by kernel_rfl
def impl_valueReader_value.T13 : Bool × List (List Nat × List Nat):=(true,[([],[]),([0],[0]),([1],[1]),([2],[2]),([],[]),([4],[4]),([3,5],[3,5]),([6],[6]),([7],[7]),([],[])])
def impl_valueReader_value.B13 : List Nat:=[0,1,3,7,0,16,63,127,255,0]
theorem impl_valueReader_value.tab13 : rtab .any (opsOf Try.f78 13) = impl_valueReader_value.T13:=by kernel_rfl
theorem impl_valueReader_value.bits13 : waitsOk impl_valueReader_value.T13.2 impl_valueReader_value.B13 = true:=by kernel_rfl
/-! ### impl_ValueRead: function 34 -/
def impl_ValueRead.f (k : Nat) (l0 : List (List (S113))) (a1 : ByteArray) : Option (ByteArray × Int × (List (S27)) × List Int × Bool):=(impl_KindsOk.f k l0).bind fun t409 => (if t409 = true then ((impl_valueReader_value.f k l0 a1 0).bind fun bt411 => (if bt411.2.2.2.2.1 = true then (if bt411.2.2.2.2.2.2 = (a1.size : Int) then ((impl_valueFits.f k l0 bt411.1 bt411.2.1 bt411.2.2.1 bt411.2.2.2.1).bind fun t423 => (if t423 = true then (some (bt411.1,bt411.2.1,bt411.2.2.1,bt411.2.2.2.1,true)) else (some ((⟨#[]⟩ : ByteArray),0,([] : List (S27)),([] : List Int),false)))) else (some ((⟨#[]⟩ : ByteArray),0,([] : List (S27)),([] : List Int),false))) else (some ((⟨#[]⟩ : ByteArray),0,([] : List (S27)),([] : List Int),false)))) else (some ((⟨#[]⟩ : ByteArray),0,([] : List (S27)),([] : List Int),false)))
theorem impl_ValueRead.mono : ∀ a0 a1 k,LeO (impl_ValueRead.f k a0 a1) (impl_ValueRead.f (k + 1) a0 a1):=by
 intro a0 a1 k;unfold impl_ValueRead.f
 repeat' first
   | (with_reducible exact impl_KindsOk.mono _ _)
   | (with_reducible exact impl_valueFits.mono _ _ _ _ _ _)
   | (with_reducible exact impl_valueReader_value.mono _ _ _ _)
   | (with_reducible exact LeO.refl _)
   | (with_reducible exact LeO.none _)
   | (with_reducible refine LeO.ite ?_ ?_)
   | (with_reducible refine LeO.bind ?_ (fun _ => ?_))
   | exact impl_KindsOk.mono _ _
   | exact impl_valueFits.mono _ _ _ _ _ _
   | exact impl_valueReader_value.mono _ _ _ _
   | exact LeO.none _
   | refine LeO.ite ?_ ?_
   | refine LeO.bind ?_ (fun _ => ?_)
/-! ### laws_markText: function 113 -/
def laws_markText.l0 : Nat → Int → ByteArray → Option (ByteArray)
 | 0,_,_ => none
 | k + 1,x0,x3 => if x0 > 0 then ((some (([(wrap64 (48 + (Int.tmod x0 10))) % 256] : List Int) : List Int)).bind fun y424 => (if (strOfNums y424).size + x3.size ≤ 9223372036854775807 then (laws_markText.l0 k (wrap64 (Int.tdiv x0 10)) ((strOfNums y424) ++ x3)) else (none))) else (if 1 + x3.size ≤ 9223372036854775807 then (some ((⟨#[109]⟩ : ByteArray) ++ x3)) else (none))
def laws_markText.f (k : Nat) (a0 : Int) : Option (ByteArray):=if a0 ≤ 0 then (some (⟨#[109,48]⟩ : ByteArray)) else (laws_markText.l0 k a0 (⟨#[]⟩ : ByteArray))
theorem laws_markText.mono_l : ∀ k,(∀ y0 y1,LeO (laws_markText.l0 k y0 y1) (laws_markText.l0 (k + 1) y0 y1))
 | 0 => fun _ _ r h => by simp [laws_markText.l0] at h
 | k + 1 => by
  have ih0:=laws_markText.mono_l k
  ·intro y0 y1;unfold laws_markText.l0;repeat' first
   | (with_reducible exact ih0 _ _)
   | (with_reducible exact LeO.refl _)
   | (with_reducible exact LeO.none _)
   | (with_reducible refine LeO.ite ?_ ?_)
   | (with_reducible refine LeO.bind ?_ (fun _ => ?_))
   | exact ih0 _ _
   | exact LeO.none _
   | refine LeO.ite ?_ ?_
   | refine LeO.bind ?_ (fun _ => ?_)
theorem laws_markText.mono : ∀ a0 k,LeO (laws_markText.f k a0) (laws_markText.f (k + 1) a0):=by
 intro a0 k;have ih0:=laws_markText.mono_l k;unfold laws_markText.f
 repeat' first
   | (with_reducible exact ih0 _ _)
   | (with_reducible exact LeO.refl _)
   | (with_reducible exact LeO.none _)
   | (with_reducible refine LeO.ite ?_ ?_)
   | (with_reducible refine LeO.bind ?_ (fun _ => ?_))
   | exact ih0 _ _
   | exact LeO.none _
   | refine LeO.ite ?_ ?_
   | refine LeO.bind ?_ (fun _ => ?_)
set_option maxHeartbeats 8000000 in
set_option maxRecDepth 100000 in
theorem laws_markText.calls (k : Nat) (a0 : Int) (r : ByteArray) (w : World) (h : laws_markText.f k a0 = some r) :
  Calls Try.prog 113 #[.int .i64 a0] w fun e w' => e = .returned (.string r) ∧ Below w.heap.size w w':=by
 have HB:=Aside0.mk (Below.refl w.heap.size w);have H : (if a0 ≤ 0 then (some (⟨#[109,48]⟩ : ByteArray)) else (laws_markText.l0 k a0 (⟨#[]⟩ : ByteArray))) = some r:=h;clear h;by_cases c2 : a0 ≤ 0
 ·(rw [if_pos c2] at H);have c2b0:=decide_eq_true c2;clear c2;obtain rfl:=Option.some.inj H;go_enter Try.func113,Try.ntmps113;go_wp2;go_ret;exact Up.e1 (Up.Bup HB)
 ·(rw [if_neg c2] at H);have c2b0:=decide_eq_false c2;clear c2;have H':=Aside0.mk H;clear H;go_enter Try.func113,Try.ntmps113;go_wp2;go_loopg [0,3] k (fun kq v0 v3 w' => ∃ (x0_1 : Int) (x3_1 : ByteArray),v0 = .int .i64 x0_1 ∧ v3 = .string x3_1 ∧ Aside0 (laws_markText.l0 kq x0_1 x3_1 = some r) ∧ Aside0 (kq ≤ k) ∧ Aside0 (Below w.heap.size w w'))
  case atStart => exact ⟨(a0),((⟨#[]⟩ : ByteArray)),(by first | rfl | (simp;done) | (simp [*];done)),(by first | rfl | (simp;done) | (simp [*];done)),H',⟨Nat.le_refl _⟩,⟨Up.Bup HB⟩⟩
  case round =>
   clear H';(try clear c1);(try clear c2);(try clear c2b0);(try clear p2);obtain ⟨x0_1,x3_1,rfl,rfl,HA,HK1,HB⟩:=hrel;cases gk with
   | zero => exact absurd HA.out (by simp [laws_markText.l0])
   | succ k1 =>
    have H:=HA.out;clear HA;(simp only [laws_markText.l0] at H);by_cases c3 : x0_1 > 0
    ·(rw [if_pos c3] at H);(have c3b0 : decide (0 < x0_1) = true:=decide_eq_true c3;clear c3;obtain ⟨y424,hy424⟩ : ∃ y_ : List Int,y_ = (([(wrap64 (48 + (Int.tmod x0_1 10))) % 256] : List Int)):=⟨_,rfl⟩);(replace H : (if (strOfNums y424).size + x3_1.size ≤ 9223372036854775807 then (laws_markText.l0 k1 (wrap64 (Int.tdiv x0_1 10)) ((strOfNums y424) ++ x3_1)) else (none)) = some r:=by first | (rw [hy424];with_reducible exact H) | (have H2_:=(Option.bind_some _ _).symm.trans H;rw [hy424];with_reducible exact H2_) | (have H2_:=(Option.bind_some _ _).symm.trans H;with_reducible exact H2_) | with_reducible exact H | (rw [hy424];exact H) | exact H);have Ny424:=Aside0.mk hy424;clear hy424;replace H:=Up.ip H;obtain ⟨c4,H⟩:=H;have c4b0:=eq_true c4;have c4b1:=decide_eq_true c4;(try have c4b2 : (9223372036854775807 < (strOfNums y424).size + x3_1.size) = False:=eq_false (Nat.not_lt.2 c4));have H':=Aside0.mk H;clear H;go_wp2_with (first | ((with_reducible refine gate_dst (N:=12) rfl ?_);refine Kd.R_lit (Kd.int .u8) _ 5 ?hg (N:=12) ?hd (xs:=([(wrap64 (48 + (Int.tmod x0_1 10))) % 256] : List Int)) (inner:=[.int .u8 ((wrap64 (48 + (Int.tmod x0_1 10))) % 256)]) (ok:=fun _ => True) (okp:=fun _ => True) ?hr ?hp (fun _ hk => hk) trivial (Below.refl _ _) (Nat.le_refl _) (by simp) ?_;(case hd => rfl);(case hg => rfl);(case hr => first | (go_simp;done) | (go_simp;rfl));(case hp => exact (Reps.one (show Kd.M (Kd.int .u8) _ _ _ ((wrap64 (48 + (Int.tmod x0_1 10))) % 256) [.int .u8 ((wrap64 (48 + (Int.tmod x0_1 10))) % 256)] from rfl) (Reps.none _ _)));intro v425 w5 ho6 hb hg_ hnew_;clear hg_ hnew_;(first | rw [← Ny424.out] at ho6 | (simp only [Int.reduceToNat] at ho6;rw [← Ny424.out] at ho6));have HO426:=Aside0.mk (Kd.R_lower ho6 (below_size (Up.Bup HB)));replace HB:=Up.BB HB hb;clear hb ho6;have hcv7:=own_string (P:=Try.prog) Try.underlying22 Try.underlying5 Try.underlying9 (Kd.own_of_R HO426.out)));go_roundg k1
     case measure => have:=HK1.out;omega
     case rel => exact ⟨(wrap64 (Int.tdiv x0_1 10)),((strOfNums y424) ++ x3_1),(by first | rfl | (simp;done) | (simp [*];done)),(by first | rfl | (simp;done) | (simp [*];done)),H',⟨by have:=HK1.out;omega⟩,⟨Up.Bup HB⟩⟩
    ·(rw [if_neg c3] at H);have c3b0 : decide (0 < x0_1) = false:=decide_eq_false c3;clear c3;replace H:=Up.ip H;obtain ⟨c8,H⟩:=H;have c8b0:=eq_true c8;have c8b1:=decide_eq_true c8;(try have c8b2 : (9223372036854775807 < 1 + x3_1.size) = False:=eq_false (Nat.not_lt.2 c8));obtain rfl:=Option.some.inj H;go_wp2;go_ret;exact Up.e1 (Up.Bup HB)

end Go.Proofs.Ytdgmlakgnbmbbaa.OFnExactValueRead
