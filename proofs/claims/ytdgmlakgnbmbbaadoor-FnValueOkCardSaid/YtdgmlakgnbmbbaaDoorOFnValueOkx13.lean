-- Laid by a program of this session (wip/myprint.py): the kit's print of the functions, contracts of our own among them.
import Derived.Test.YtdgmlakgnbmbbaaDoorOFnValueOkx0
import Derived.Test.YtdgmlakgnbmbbaaDoorOFnValueOkx3
import Derived.Test.YtdgmlakgnbmbbaaDoorOFnValueOkx8
import Derived.Test.YtdgmlakgnbmbbaaDoorOFnValueOkx11
import Derived.Test.YtdgmlakgnbmbbaaDoorOFnValueOkx12
namespace Go.Proofs.YtdgmlakgnbmbbaaDoor.OFnValueOk
open Go.RowKit Go.Proofs.YtdgmlakgnbmbbaaDoorW.PrintWords Go.Proofs.YtdgmlakgnbmbbaaDoorW.PrintLast Go.Proofs.YtdgmlakgnbmbbaaDoorW.PrintMore
attribute [local go_sem] max2_int min2_int max_two min_two max_three min_three max_four min_four   -- for this text's walks alone
set_option linter.unusedVariables false
set_option linter.unusedSimpArgs false

/-! ### spec_ValueOk: function 9 -/
def spec_ValueOk.f (k : Nat) (l0 : List (List (S81))) (a1_0 : ByteArray) (a1_1 : Int) (l1_2 : List (S27)) (l1_3 : List Int) : Option (Bool):=(spec_KindsOk.f k l0).bind fun t423 => (if t423 = true then ((spec_l2Ok.f k l0 a1_0 a1_1 l1_2 l1_3).bind fun t424 => (some t424)) else (some false))
theorem spec_ValueOk.mono : ∀ a0 a1 a2 a3 a4 k,LeO (spec_ValueOk.f k a0 a1 a2 a3 a4) (spec_ValueOk.f (k + 1) a0 a1 a2 a3 a4):=by
 intro a0 a1 a2 a3 a4 k
 unfold spec_ValueOk.f
 repeat' first
   | (with_reducible exact spec_KindsOk.mono _ _)
   | (with_reducible exact spec_l2Ok.mono _ _ _ _ _ _)
   | (with_reducible exact LeO.refl _)
   | (with_reducible exact LeO.none _)
   | (with_reducible refine LeO.ite ?_ ?_)
   | (with_reducible refine LeO.bind ?_ (fun _ => ?_))
   | exact spec_KindsOk.mono _ _
   | exact spec_l2Ok.mono _ _ _ _ _ _
   | exact LeO.none _
   | refine LeO.ite ?_ ?_
   | refine LeO.bind ?_ (fun _ => ?_)
set_option maxHeartbeats 8000000 in
set_option maxRecDepth 100000 in
theorem spec_ValueOk.calls (k : Nat) (A0 : Option Addr) (c0 : Nat) (l0 : List (List (S81))) (a1_0 : ByteArray) (a1_1 : Int) (A1_2 : Option Addr) (c1_2 : Nat) (l1_2 : List (S27)) (A1_3 : Option Addr) (c1_3 : Nat) (l1_3 : List Int) (r : Bool) (w : World) (hr0 : Kd.C (Kd.slice 81 k81) w A0 l0.length l0) (hc0 : l0.length ≤ c0) (hr1_2 : Kd.C k27 w A1_2 l1_2.length l1_2) (hc1_2 : l1_2.length ≤ c1_2) (hr1_3 : Kd.C (Kd.int .i64) w A1_3 l1_3.length l1_3) (hc1_3 : l1_3.length ≤ c1_3) (h : spec_ValueOk.f k l0 a1_0 a1_1 l1_2 l1_3 = some r) :
  Calls Tryd.prog 9 #[.slice A0 l0.length c0,.agg #[.string a1_0,.int .i64 a1_1,.slice A1_2 l1_2.length c1_2,.slice A1_3 l1_3.length c1_3]] w fun e w' => e = .returned (.bool r) ∧ Below w.heap.size w w':=by
 have hu27:=Tryd.underlying27
 have HR0:=Aside0.mk hr0
 have HC0:=Aside0.mk hc0
 clear hr0 hc0
 have HR1_2:=Aside0.mk hr1_2
 have HC1_2:=Aside0.mk hc1_2
 clear hr1_2 hc1_2
 have HR1_3:=Aside0.mk hr1_3
 have HC1_3:=Aside0.mk hc1_3
 clear hr1_3 hc1_3
 have HB:=Aside0.mk (Below.refl w.heap.size w)
 have H : ((spec_KindsOk.f k l0).bind fun t423 => (if t423 = true then ((spec_l2Ok.f k l0 a1_0 a1_1 l1_2 l1_3).bind fun t424 => (some t424)) else (some false))) = some r:=h
 clear h
 replace H:=Option.bind_eq_some_iff.mp H
 obtain ⟨t423,A30,H⟩:=H
 replace H : (if t423 = true then ((spec_l2Ok.f k l0 a1_0 a1_1 l1_2 l1_3).bind fun t424 => (some t424)) else (some false)) = some r:=H
 have A3:=Aside0.mk A30
 clear A30
 by_cases c4 : t423 = true
 ·subst c4
  have H1 : ((spec_l2Ok.f k l0 a1_0 a1_1 l1_2 l1_3).bind fun t424 => (some t424)) = some r:=by rw [if_pos rfl] at H;exact H
  clear H
  have H:=H1
  clear H1
  replace H:=Option.bind_eq_some_iff.mp H
  obtain ⟨t424,A50,H⟩:=H
  replace H : (some t424) = some r:=H
  have A5:=Aside0.mk A50
  clear A50
  obtain rfl:=Option.some.inj H
  go_enter Tryd.func9,Tryd.ntmps9
  go_wp2_with (first | ((with_reducible refine gate_dst (N:=3) rfl ?_);refine Up.bx 3 27 #[.string a1_0,.int .i64 a1_1,.slice A1_2 l1_2.length c1_2,.slice A1_3 l1_3.length c1_3] ?_;intro gb422 hg w6 hbox hb;have n0_:=Up.BB HB hb;have n1_:=Aside0.mk (hbox);have n2_:=Up.gw hg HB;have n3_:=Up.gw hg HB;clear HB;have HB:=n0_;have BK422:=n1_;have GW422:=n2_;have GE422:=n3_;clear n0_ n1_ n2_ n3_ hb hbox hg) | ((with_reducible refine gate_callee (f:=30) rfl ?_);refine Up.gl (some 6) Tryd.func30 #[.slice A0 l0.length c0] ?_;(with_reducible refine (spec_KindsOk.calls k _ _ l0 true _ ?side1 ?side2 A3.out).mono ?_);(case side1 => exact Up.Cx HR0 HB);(case side2 => exact HC0.out);rintro e w7 ⟨rfl,hb⟩;refine ⟨_,rfl,?_⟩;have n0_:=Up.KB BK422 hb;have n1_:=Aside0.mk (below_step (Up.Bx HB) hb);clear BK422 HB;have BK422:=n0_;have HB:=n1_;clear n0_ n1_;(try clear hb);(try clear hb2);(try clear hk);(try clear hi);have hcz8_0:=Up.c0 BK422;have hcz8_1:=Up.c1 BK422;have hcz8_2:=Up.c2 BK422;have hcz8_3:=Up.c3 BK422;have hfz8_0:=blk_frozen BK422.out 0;have hfz8_1:=blk_frozen BK422.out 1;have hfz8_2:=blk_frozen BK422.out 2;have hfz8_3:=blk_frozen BK422.out 3) | (go_at_call 31;(with_reducible refine (spec_l2Ok.calls k _ _ l0 a1_0 a1_1 _ _ l1_2 _ _ l1_3 t424 _ ?side1 ?side2 ?side3 ?side4 ?side5 ?side6 A5.out).mono ?_);(case side1 => exact Up.Cx HR0 HB);(case side2 => exact HC0.out);(case side3 => exact Up.Cx HR1_2 HB);(case side4 => exact HC1_2.out);(case side5 => exact Up.Cx HR1_3 HB);(case side6 => exact HC1_3.out);rintro e w9 ⟨rfl,hb⟩;have n0_:=Up.KB BK422 hb;have n1_:=Aside0.mk (below_step (Up.Bx HB) hb);clear BK422 HB;have BK422:=n0_;have HB:=n1_;clear n0_ n1_;(try clear hb);(try clear hb2);(try clear hk);(try clear hi)))
  go_ret
  exact Up.e1 (Up.Bx HB)
 ·replace c4:=Bool.eq_false_iff.mpr c4
  subst c4
  have H1 : (some false) = some r:=by rw [if_neg (show ¬ (false = true) by decide)] at H;exact H
  clear H
  have H:=H1
  clear H1
  obtain rfl:=Option.some.inj H
  go_enter Tryd.func9,Tryd.ntmps9
  go_wp2_with (first | ((with_reducible refine gate_dst (N:=3) rfl ?_);refine Up.bx 3 27 #[.string a1_0,.int .i64 a1_1,.slice A1_2 l1_2.length c1_2,.slice A1_3 l1_3.length c1_3] ?_;intro gb422 hg w10 hbox hb;have n0_:=Up.BB HB hb;have n1_:=Aside0.mk (hbox);have n2_:=Up.gw hg HB;have n3_:=Up.gw hg HB;clear HB;have HB:=n0_;have BK422:=n1_;have GW422:=n2_;have GE422:=n3_;clear n0_ n1_ n2_ n3_ hb hbox hg) | ((with_reducible refine gate_callee (f:=30) rfl ?_);refine Up.gl (some 6) Tryd.func30 #[.slice A0 l0.length c0] ?_;(with_reducible refine (spec_KindsOk.calls k _ _ l0 false _ ?side1 ?side2 A3.out).mono ?_);(case side1 => exact Up.Cx HR0 HB);(case side2 => exact HC0.out);rintro e w11 ⟨rfl,hb⟩;refine ⟨_,rfl,?_⟩;have n0_:=Up.KB BK422 hb;have n1_:=Aside0.mk (below_step (Up.Bx HB) hb);clear BK422 HB;have BK422:=n0_;have HB:=n1_;clear n0_ n1_;(try clear hb);(try clear hb2);(try clear hk);(try clear hi)))
  go_ret
  exact Up.e1 (Up.Bx HB)

/-! ### strconv_Itoa: function 60 -/
theorem tabIs_below {P : Program} {w W : World} {name : String} {k : IntKind} {zs : List Int} (h : Lib.TabIs P w name k zs) (hb : Below w.heap.size w W) : Lib.TabIs P W name k zs := by
  unfold Lib.TabIs World.var? at h ⊢
  cases hg : P.globalNamed name with
  | none => rw [hg] at h; cases h
  | some g =>
    rw [hg] at h
    simp only [Option.bind_some] at h ⊢
    have hlt : g < w.heap.size := by
      rcases Nat.lt_or_ge g w.heap.size with h' | h'
      · exact h'
      · rw [Array.getElem?_eq_none h'] at h; cases h
    rw [hb.block g hlt]
    exact h
/-- What stands in the world ahead of the call, and is asked by what it comes to in the library. -/
structure Tab (w : World) : Prop where
  f2 : Lib.TabIs Tryd.prog w "internal/strconv.uint64pow10" .u64 Lib.pow10Tab
theorem Tab.below {w W : World} (h : Tab w) (hb : Below w.heap.size w W) : Tab W := ⟨tabIs_below h.f2 hb⟩

def strconv_Itoa.f (n : Int) : Option ByteArray := if -9223372036854775808 ≤ n ∧ n ≤ 9223372036854775807 then some ⟨(Lib.itoa n).toArray⟩ else none
theorem below_grown_ (w : World) (k : Nat) (os : Array Obj) : Below w.heap.size w (Sort.grow (w.drewN k) os) :=
  ⟨rfl, rfl, rfl, by simp [Sort.grow, World.drewN], fun i hi => by simp [Sort.grow, World.drewN, Array.getElem?_append_left hi]⟩
theorem strconv_Itoa.calls (a0 : Int) (r : ByteArray) (w : World) (hT_ : Tab w) (h : strconv_Itoa.f a0 = some r) :
    Calls Tryd.prog 60 #[.int .i64 a0] w fun e w' => e = .returned (.string r) ∧ Below w.heap.size w w' := by
  unfold strconv_Itoa.f at h
  split at h
  · rename_i hc
    obtain rfl := Option.some.inj h
    refine (Tryd.strconv_Itoa a0 hc.1 hc.2 w hT_.f2).mono ?_
    rintro e w' ⟨rfl, k, os, rfl⟩
    exact ⟨rfl, below_grown_ _ k os⟩
  · cases h

/-! ### strings_Join: function 61 -/
def strings_Join.f (l0 : List ByteArray) (a1 : ByteArray) : Option ByteArray := if l0.length ≤ 140737488355328 ∧ (Lib.join (l0.map (·.data.toList)) a1.data.toList).length ≤ 140737488355328 then some ⟨(Lib.join (l0.map (·.data.toList)) a1.data.toList).toArray⟩ else none
theorem strings_Join.calls (A0 : Option Addr) (c0 : Nat) (l0 : List ByteArray) (a1 : ByteArray) (r : ByteArray) (w : World) (hr0 : Kd.C Kd.string w A0 l0.length l0) (hc0 : l0.length ≤ c0) (h : strings_Join.f l0 a1 = some r) :
    Calls Tryd.prog 61 #[.slice A0 l0.length c0, .string a1] w fun e w' => e = .returned (.string r) ∧ Below w.heap.size w w' := by
  unfold strings_Join.f at h
  split at h
  · rename_i hc
    obtain rfl := Option.some.inj h
    cases l0 with
    | nil => exact (Tryd.strings_Join_none A0 c0 a1 w).mono fun e w' ⟨he, hw⟩ => ⟨he, hw ▸ Below.refl _ _⟩
    | cons x xs =>
      obtain ⟨ad, rfl, hx⟩ := Kd.at_string hr0 0 (Int.le_refl _) (by simp)
      obtain ⟨b, o, sp⟩ := ad
      cases sp with
      | some s =>
        exfalso
        simp [Addr.add, World.cell?] at hx
        split at hx <;> cases hx
      | none =>
        have hcell : ∀ (j : Nat) y, (x :: xs)[j]? = some y → w.cell? ⟨b, o + j, none⟩ = some (.string y) := by
          intro j y hy
          have hj : j < (x :: xs).length := by
            rcases Nat.lt_or_ge j (x :: xs).length with h' | h'
            · exact h'
            · rw [List.getElem?_eq_none h'] at hy; cases hy
          obtain ⟨ad2, he2, hx2⟩ := Kd.at_string hr0 (j : Int) (by omega) (by omega)
          obtain rfl := Option.some.inj he2
          have hv : rdOf ByteArray.empty (x :: xs) (j : Int) = y := by simp [rdOf, hy]
          rw [hv] at hx2
          have hp : (⟨b, o, none⟩ : Addr).add j = ⟨b, o + j, none⟩ := by unfold Addr.add; split <;> simp_all
          rw [Int.toNat_natCast, hp] at hx2
          exact hx2
        refine Tryd.strings_Join b o c0 (x :: xs) a1 w hcell ?_ hc.1 hc0 hc.2
        have := World.block_lt_of_cell? w _ (hcell 0 x rfl)
        exact this
  · cases h

/-! ### impl_valueText: function 32 -/
mutual
def impl_valueText.l0 : Nat → List ByteArray → List (S27) → Int → Int → ByteArray → Int → List (S27) → List Int → Option (ByteArray)
 | 0,_,_,_,_,_,_,_,_ => none
 | k + 1,x3,x28,x29,x30,x426000,x426001,x426002,x426003 => if x30 < x29 then (if 0 ≤ x30 then (if x30 < (x28.length : Int) then ((impl_valueText.f k ((rd_T27 x28 x30).f0) ((rd_T27 x28 x30).f1) ((rd_T27 x28 x30).f2) ((rd_T27 x28 x30).f3)).bind fun t437 => (if x3.length < 8796093022208 then (impl_valueText.l0 k (x3 ++ [t437]) x28 x29 (wrap64 (x30 + 1)) x426000 x426001 x426002 x426003) else (none))) else (none)) else (none)) else (if x426000.size + 1 ≤ 9223372036854775807 then ((strings_Join.f x3 (⟨#[32]⟩ : ByteArray)).bind fun t441 => (if (x426000 ++ (⟨#[40]⟩ : ByteArray)).size + t441.size ≤ 9223372036854775807 then (if ((x426000 ++ (⟨#[40]⟩ : ByteArray)) ++ t441).size + 1 ≤ 9223372036854775807 then (some (((x426000 ++ (⟨#[40]⟩ : ByteArray)) ++ t441) ++ (⟨#[41]⟩ : ByteArray))) else (none)) else (none))) else (none))
def impl_valueText.f : Nat → ByteArray → Int → List (S27) → List Int → Option (ByteArray)
 | 0,_,_,_,_ => none
 | k + 1,a0_0,a0_1,l0_2,l0_3 => if a0_0.toList = ([110] : List UInt8) then ((strconv_Itoa.f a0_1).bind fun t426 => (some t426)) else (if a0_0.toList = ([98] : List UInt8) then ((some (([(⟨#[45]⟩ : ByteArray),(⟨#[43]⟩ : ByteArray)] : List ByteArray) : List ByteArray)).bind fun y427 => (if 0 ≤ a0_1 then (if a0_1 < (y427.length : Int) then (some (rdOf ByteArray.empty y427 a0_1)) else (none)) else (none))) else (if a0_0.toList = ([111] : List UInt8) then ((strconv_Itoa.f a0_1).bind fun t431 => (if 1 + t431.size ≤ 9223372036854775807 then (some ((⟨#[64]⟩ : ByteArray) ++ t431)) else (none))) else (impl_valueText.l0 k (([] : List ByteArray)) l0_2 (l0_2.length : Int) 0 a0_0 a0_1 l0_2 l0_3)))
end
theorem impl_valueText.mono_l : ∀ k,(∀ y0 y1 y2 y3,LeO (impl_valueText.f k y0 y1 y2 y3) (impl_valueText.f (k + 1) y0 y1 y2 y3)) ∧ (∀ y0 y1 y2 y3 y4 y5 y6 y7,LeO (impl_valueText.l0 k y0 y1 y2 y3 y4 y5 y6 y7) (impl_valueText.l0 (k + 1) y0 y1 y2 y3 y4 y5 y6 y7))
 | 0 => ⟨fun _ _ _ _ r h => by simp [impl_valueText.f] at h,fun _ _ _ _ _ _ _ _ r h => by simp [impl_valueText.l0] at h⟩
 | k + 1 => by
  obtain ⟨ih0,ih1⟩:=impl_valueText.mono_l k
  refine ⟨?_,?_⟩
  ·intro y0 y1 y2 y3
   unfold impl_valueText.f
   repeat' first
   | (with_reducible exact ih0 _ _ _ _)
   | (with_reducible exact ih1 _ _ _ _ _ _ _ _)
   | (with_reducible exact LeO.refl _)
   | (with_reducible exact LeO.none _)
   | (with_reducible refine LeO.ite ?_ ?_)
   | (with_reducible refine LeO.bind ?_ (fun _ => ?_))
   | exact ih0 _ _ _ _
   | exact ih1 _ _ _ _ _ _ _ _
   | exact LeO.none _
   | refine LeO.ite ?_ ?_
   | refine LeO.bind ?_ (fun _ => ?_)
  ·intro y0 y1 y2 y3 y4 y5 y6 y7
   unfold impl_valueText.l0
   repeat' first
   | (with_reducible exact ih0 _ _ _ _)
   | (with_reducible exact ih1 _ _ _ _ _ _ _ _)
   | (with_reducible exact LeO.refl _)
   | (with_reducible exact LeO.none _)
   | (with_reducible refine LeO.ite ?_ ?_)
   | (with_reducible refine LeO.bind ?_ (fun _ => ?_))
   | exact ih0 _ _ _ _
   | exact ih1 _ _ _ _ _ _ _ _
   | exact LeO.none _
   | refine LeO.ite ?_ ?_
   | refine LeO.bind ?_ (fun _ => ?_)
theorem impl_valueText.mono : ∀ a0 a1 a2 a3 k,LeO (impl_valueText.f k a0 a1 a2 a3) (impl_valueText.f (k + 1) a0 a1 a2 a3):=by
 intro a0 a1 a2 a3 k
 obtain ⟨ih0,ih1⟩:=impl_valueText.mono_l k
 exact ih0 a0 a1 a2 a3
def impl_valueText.T14 : Bool × List (List Nat × List Nat):=(true,[([],[]),([0],[0]),([1],[1]),([],[]),([3],[3]),([2,4],[2,4]),([5],[5]),([6,4,0,1,2,3,4,5,6],[6])])
def impl_valueText.B14 : List Nat:=[0,1,3,0,8,31,63,127]
theorem impl_valueText.tab14 : rtab .any (opsOf Tryd.f32 14) = impl_valueText.T14:=by kernel_rfl
theorem impl_valueText.bits14 : waitsOk impl_valueText.T14.2 impl_valueText.B14 = true:=by kernel_rfl
set_option maxHeartbeats 8000000 in
set_option maxRecDepth 100000 in
theorem impl_valueText.calls (k : Nat) : ∀ (a0_0 : ByteArray) (a0_1 : Int) (A0_2 : Option Addr) (c0_2 : Nat) (l0_2 : List (S27)) (A0_3 : Option Addr) (c0_3 : Nat) (l0_3 : List Int) (r : ByteArray) (w : World) (hT_ : Tab w) (hr0_2 : Kd.C k27 w A0_2 l0_2.length l0_2) (hc0_2 : l0_2.length ≤ c0_2) (hr0_3 : Kd.C (Kd.int .i64) w A0_3 l0_3.length l0_3) (hc0_3 : l0_3.length ≤ c0_3) (h : impl_valueText.f k a0_0 a0_1 l0_2 l0_3 = some r),
  Calls Tryd.prog 32 #[.agg #[.string a0_0,.int .i64 a0_1,.slice A0_2 l0_2.length c0_2,.slice A0_3 l0_3.length c0_3]] w fun e w' => e = .returned (.string r) ∧ Below w.heap.size w w':=by
 induction k using Nat.strongRecOn with
 | _ k ih =>
 intro a0_0 a0_1 A0_2 c0_2 l0_2 A0_3 c0_3 l0_3 r w hT_ hr0_2 hc0_2 hr0_3 hc0_3 h
 cases k with
 | zero => exact absurd h (by simp [impl_valueText.f])
 | succ k =>
 simp only [impl_valueText.f] at h
 have hu27:=Tryd.underlying27
 have HR0_2:=Aside0.mk hr0_2
 have HC0_2:=Aside0.mk hc0_2
 clear hr0_2 hc0_2
 have HR0_3:=Aside0.mk hr0_3
 have HC0_3:=Aside0.mk hc0_3
 clear hr0_3 hc0_3
 have HB:=Aside0.mk (Below.refl w.heap.size w)
 have H : (if a0_0.toList = ([110] : List UInt8) then ((strconv_Itoa.f a0_1).bind fun t426 => (some t426)) else (if a0_0.toList = ([98] : List UInt8) then ((some (([(⟨#[45]⟩ : ByteArray),(⟨#[43]⟩ : ByteArray)] : List ByteArray) : List ByteArray)).bind fun y427 => (if 0 ≤ a0_1 then (if a0_1 < (y427.length : Int) then (some (rdOf ByteArray.empty y427 a0_1)) else (none)) else (none))) else (if a0_0.toList = ([111] : List UInt8) then ((strconv_Itoa.f a0_1).bind fun t431 => (if 1 + t431.size ≤ 9223372036854775807 then (some ((⟨#[64]⟩ : ByteArray) ++ t431)) else (none))) else (impl_valueText.l0 k (([] : List ByteArray)) l0_2 (l0_2.length : Int) 0 a0_0 a0_1 l0_2 l0_3)))) = some r:=h
 clear h
 by_cases c2 : a0_0.toList = ([110] : List UInt8)
 ·rw [if_pos c2] at H
  have c2b0 : (a0_0.toList == ([110] : List UInt8)) = true:=beq_iff_eq.mpr c2
  have c2b1 : (a0_0.toList != ([110] : List UInt8)) = false:=bne_eq_false_iff_eq.mpr c2
  clear c2
  replace H:=Option.bind_eq_some_iff.mp H
  obtain ⟨t426,A30,H⟩:=H
  replace H : (some t426) = some r:=H
  have A3:=Aside0.mk A30
  clear A30
  obtain rfl:=Option.some.inj H
  go_enter Tryd.func32,Tryd.ntmps32
  go_wp2_with (first | ((with_reducible refine gate_dst (N:=1) rfl ?_);refine Up.bx 1 27 #[.string a0_0,.int .i64 a0_1,.slice A0_2 l0_2.length c0_2,.slice A0_3 l0_3.length c0_3] ?_;intro gb425 hg w4 hbox hb;have n0_:=Up.BB HB hb;have n1_:=Aside0.mk (hbox);have n2_:=Up.gw hg HB;have n3_:=Up.gw hg HB;clear HB;have HB:=n0_;have BK425:=n1_;have GW425:=n2_;have GE425:=n3_;clear n0_ n1_ n2_ n3_ hb hbox hg;have hcz5_0:=Up.c0 BK425;have hcz5_1:=Up.c1 BK425;have hcz5_2:=Up.c2 BK425;have hcz5_3:=Up.c3 BK425;have hfz5_0:=blk_frozen BK425.out 0;have hfz5_1:=blk_frozen BK425.out 1;have hfz5_2:=blk_frozen BK425.out 2;have hfz5_3:=blk_frozen BK425.out 3) | ((with_reducible refine gate_callee (f:=60) rfl ?_);refine Up.gl (some 12) Tryd.func60 #[.int .i64 a0_1] ?_;(with_reducible refine (strconv_Itoa.calls (hT_:=?tab1) a0_1 t426 _ A3.out).mono ?_);(case tab1 => exact hT_.below (Up.Bx HB));rintro e w6 ⟨rfl,hb⟩;refine ⟨_,rfl,?_⟩;have n0_:=Up.KB BK425 hb;have n1_:=Aside0.mk (below_step (Up.Bx HB) hb);clear BK425 HB;have BK425:=n0_;have HB:=n1_;clear n0_ n1_;(try clear hb);(try clear hb2);(try clear hk);(try clear hi)))
  go_ret
  exact Up.e1 (Up.Bx HB)
 ·rw [if_neg c2] at H
  have c2b0 : (a0_0.toList == ([110] : List UInt8)) = false:=beq_eq_false_iff_ne.mpr c2
  have c2b1 : (a0_0.toList != ([110] : List UInt8)) = true:=bne_iff_ne.mpr c2
  by_cases c7 : a0_0.toList = ([98] : List UInt8)
  ·rw [if_pos c7] at H
   have c7b0 : (a0_0.toList == ([98] : List UInt8)) = true:=beq_iff_eq.mpr c7
   have c7b1 : (a0_0.toList != ([98] : List UInt8)) = false:=bne_eq_false_iff_eq.mpr c7
   clear c7
   obtain ⟨y427,hy427⟩ : ∃ y_ : List ByteArray,y_ = (([(⟨#[45]⟩ : ByteArray),(⟨#[43]⟩ : ByteArray)] : List ByteArray)):=⟨_,rfl⟩
   replace H : (if 0 ≤ a0_1 then (if a0_1 < (y427.length : Int) then (some (rdOf ByteArray.empty y427 a0_1)) else (none)) else (none)) = some r:=by first | (rw [hy427];with_reducible exact H) | (have H2_:=(Option.bind_some _ _).symm.trans H;rw [hy427];with_reducible exact H2_) | (have H2_:=(Option.bind_some _ _).symm.trans H;with_reducible exact H2_) | with_reducible exact H | (rw [hy427];exact H) | exact H
   have Ny427:=Aside0.mk hy427
   clear hy427
   by_cases c8 : 0 ≤ a0_1
   ·rw [if_pos c8] at H
    have c8b0 : decide (0 ≤ a0_1) = true:=decide_eq_true c8
    clear c8
    by_cases c9 : a0_1 < (y427.length : Int)
    ·rw [if_pos c9] at H
     have c9b0 : decide (a0_1 < (y427.length : Int)) = true:=decide_eq_true c9
     clear c9
     obtain rfl:=Option.some.inj H
     go_enter Tryd.func32,Tryd.ntmps32
     go_wp2_with (first | ((with_reducible refine gate_dst (N:=1) rfl ?_);refine Up.bx 1 27 #[.string a0_0,.int .i64 a0_1,.slice A0_2 l0_2.length c0_2,.slice A0_3 l0_3.length c0_3] ?_;intro gb425 hg w10 hbox hb;have n0_:=Up.BB HB hb;have n1_:=Aside0.mk (hbox);have n2_:=Up.gw hg HB;have n3_:=Up.gw hg HB;clear HB;have HB:=n0_;have BK425:=n1_;have GW425:=n2_;have GE425:=n3_;clear n0_ n1_ n2_ n3_ hb hbox hg;have hcz11_0:=Up.c0 BK425;have hcz11_1:=Up.c1 BK425;have hcz11_2:=Up.c2 BK425;have hcz11_3:=Up.c3 BK425;have hfz11_0:=blk_frozen BK425.out 0;have hfz11_1:=blk_frozen BK425.out 1;have hfz11_2:=blk_frozen BK425.out 2;have hfz11_3:=blk_frozen BK425.out 3) | ((with_reducible refine gate_dst (N:=15) rfl ?_);refine Kd.R_lit Kd.string _ 9 ?hg (N:=15) ?hd (xs:=([(⟨#[45]⟩ : ByteArray),(⟨#[43]⟩ : ByteArray)] : List ByteArray)) (inner:=[.string (⟨#[45]⟩ : ByteArray),.string (⟨#[43]⟩ : ByteArray)]) (ok:=fun _ => True) (okp:=fun _ => True) ?hr ?hp (fun _ hk => hk) trivial (Below.refl _ _) (Nat.le_refl _) (by simp) ?_;(case hd => rfl);(case hg => rfl);(case hr => first | (go_simp;done) | (go_simp;rfl));(case hp => exact (Reps.one (show Kd.M Kd.string _ _ _ (⟨#[45]⟩ : ByteArray) [.string (⟨#[45]⟩ : ByteArray)] from rfl) (Reps.one (show Kd.M Kd.string _ _ _ (⟨#[43]⟩ : ByteArray) [.string (⟨#[43]⟩ : ByteArray)] from rfl) (Reps.none _ _))));intro v428 w12 ho13 hb hg_ hnew_;clear hg_ hnew_;(first | rw [← Ny427.out] at ho13 | (simp only [Int.reduceToNat] at ho13;rw [← Ny427.out] at ho13));have n0_:=Aside0.mk (Kd.R_lower ho13 (below_size (Up.Bx HB)));have n1_:=Up.KB BK425 hb;have n2_:=Aside0.mk (below_step (Up.Bx HB) hb);clear BK425 HB;have HO429:=n0_;have BK425:=n1_;have HB:=n2_;clear n0_ n1_ n2_ hb ho13;have hcz14_0:=Up.c0 BK425;have hcz14_1:=Up.c1 BK425;have hcz14_2:=Up.c2 BK425;have hcz14_3:=Up.c3 BK425;have hfz14_0:=blk_frozen BK425.out 0;have hfz14_1:=blk_frozen BK425.out 1;have hfz14_2:=blk_frozen BK425.out 2;have hfz14_3:=blk_frozen BK425.out 3;obtain ⟨Ao15,co15,eo15⟩:=Kd.R_slice HO429.out;subst eo15;have p430 : 0 ≤ (a0_1 : Int):=Up.od;have q430 : a0_1 < (y427.length : Int):=Up.od;obtain ⟨ad430,e430,hx430_0⟩:=Kd.at_string (Kd.R_reads' HO429.out).2.2 a0_1 p430 q430;cases e430;replace p430:=eq_true p430;replace q430:=eq_true q430))
     go_ret
     exact Up.e1 (Up.Bx HB)
    ·rw [if_neg c9] at H
     exact absurd H (by simp)
   ·rw [if_neg c8] at H
    exact absurd H (by simp)
  ·rw [if_neg c7] at H
   have c7b0 : (a0_0.toList == ([98] : List UInt8)) = false:=beq_eq_false_iff_ne.mpr c7
   have c7b1 : (a0_0.toList != ([98] : List UInt8)) = true:=bne_iff_ne.mpr c7
   by_cases c16 : a0_0.toList = ([111] : List UInt8)
   ·rw [if_pos c16] at H
    have c16b0 : (a0_0.toList == ([111] : List UInt8)) = true:=beq_iff_eq.mpr c16
    have c16b1 : (a0_0.toList != ([111] : List UInt8)) = false:=bne_eq_false_iff_eq.mpr c16
    clear c16
    replace H:=Option.bind_eq_some_iff.mp H
    obtain ⟨t431,A170,H⟩:=H
    replace H : (if 1 + t431.size ≤ 9223372036854775807 then (some ((⟨#[64]⟩ : ByteArray) ++ t431)) else (none)) = some r:=H
    have A17:=Aside0.mk A170
    clear A170
    by_cases c18 : 1 + t431.size ≤ 9223372036854775807
    ·rw [if_pos c18] at H
     have c18b0:=eq_true c18
     have c18b1 : decide (1 + t431.size ≤ 9223372036854775807) = true:=decide_eq_true c18
     try have c18b2 : (9223372036854775807 < 1 + t431.size) = False:=eq_false (Nat.not_lt.2 c18)
     obtain rfl:=Option.some.inj H
     go_enter Tryd.func32,Tryd.ntmps32
     go_wp2_with (first | ((with_reducible refine gate_dst (N:=1) rfl ?_);refine Up.bx 1 27 #[.string a0_0,.int .i64 a0_1,.slice A0_2 l0_2.length c0_2,.slice A0_3 l0_3.length c0_3] ?_;intro gb425 hg w19 hbox hb;have n0_:=Up.BB HB hb;have n1_:=Aside0.mk (hbox);have n2_:=Up.gw hg HB;have n3_:=Up.gw hg HB;clear HB;have HB:=n0_;have BK425:=n1_;have GW425:=n2_;have GE425:=n3_;clear n0_ n1_ n2_ n3_ hb hbox hg;have hcz20_0:=Up.c0 BK425;have hcz20_1:=Up.c1 BK425;have hcz20_2:=Up.c2 BK425;have hcz20_3:=Up.c3 BK425;have hfz20_0:=blk_frozen BK425.out 0;have hfz20_1:=blk_frozen BK425.out 1;have hfz20_2:=blk_frozen BK425.out 2;have hfz20_3:=blk_frozen BK425.out 3) | ((with_reducible refine gate_callee (f:=60) rfl ?_);refine Up.gl (some 24) Tryd.func60 #[.int .i64 a0_1] ?_;(with_reducible refine (strconv_Itoa.calls (hT_:=?tab1) a0_1 t431 _ A17.out).mono ?_);(case tab1 => exact hT_.below (Up.Bx HB));rintro e w21 ⟨rfl,hb⟩;refine ⟨_,rfl,?_⟩;have n0_:=Up.KB BK425 hb;have n1_:=Aside0.mk (below_step (Up.Bx HB) hb);clear BK425 HB;have BK425:=n0_;have HB:=n1_;clear n0_ n1_;(try clear hb);(try clear hb2);(try clear hk);(try clear hi)))
     go_ret
     exact Up.e1 (Up.Bx HB)
    ·rw [if_neg c18] at H
     exact absurd H (by simp)
   ·rw [if_neg c16] at H
    have c16b0 : (a0_0.toList == ([111] : List UInt8)) = false:=beq_eq_false_iff_ne.mpr c16
    have c16b1 : (a0_0.toList != ([111] : List UInt8)) = true:=bne_iff_ne.mpr c16
    obtain ⟨y432,hy432⟩ : ∃ y_ : List ByteArray,y_ = (([] : List ByteArray)):=⟨_,rfl⟩
    replace H : (impl_valueText.l0 k y432 l0_2 (l0_2.length : Int) 0 a0_0 a0_1 l0_2 l0_3) = some r:=by first | (rw [hy432];with_reducible exact H) | (have H2_:=(Option.bind_some _ _).symm.trans H;rw [hy432];with_reducible exact H2_) | (have H2_:=(Option.bind_some _ _).symm.trans H;with_reducible exact H2_) | with_reducible exact H | (rw [hy432];exact H) | exact H
    have Ny432:=Aside0.mk hy432
    clear hy432
    have H':=Aside0.mk H
    clear H
    go_enter Tryd.func32,Tryd.ntmps32
    go_wp2_with (first | ((with_reducible refine gate_dst (N:=1) rfl ?_);refine Up.bx 1 27 #[.string a0_0,.int .i64 a0_1,.slice A0_2 l0_2.length c0_2,.slice A0_3 l0_3.length c0_3] ?_;intro gb425 hg w22 hbox hb;have n0_:=Up.BB HB hb;have n1_:=Aside0.mk (hbox);have n2_:=Up.gw hg HB;have n3_:=Up.gw hg HB;clear HB;have HB:=n0_;have BK425:=n1_;have GW425:=n2_;have GE425:=n3_;clear n0_ n1_ n2_ n3_ hb hbox hg;have hcz23_0:=Up.c0 BK425;have hcz23_1:=Up.c1 BK425;have hcz23_2:=Up.c2 BK425;have hcz23_3:=Up.c3 BK425;have hfz23_0:=blk_frozen BK425.out 0;have hfz23_1:=blk_frozen BK425.out 1;have hfz23_2:=blk_frozen BK425.out 2;have hfz23_3:=blk_frozen BK425.out 3) | ((with_reducible refine gate_dst (N:=26) rfl ?_);refine Kd.R_lit Kd.string _ 9 ?hg (N:=26) ?hd (xs:=([] : List ByteArray)) (inner:=[]) (ok:=fun _ => True) (okp:=fun _ => True) ?hr ?hp (fun _ hk => hk) trivial (Below.refl _ _) (Nat.le_refl _) (by simp) ?_;(case hd => rfl);(case hg => rfl);(case hr => first | (go_simp;done) | (go_simp;rfl));(case hp => exact (Reps.none _ _));intro v433 w24 ho25 hb hg_ hnew_;clear hg_ hnew_;(first | rw [← Ny432.out] at ho25 | (simp only [Int.reduceToNat] at ho25;rw [← Ny432.out] at ho25));have n0_:=Aside0.mk (Kd.R_lower ho25 (below_size (Up.Bx HB)));have n1_:=Up.KB BK425 hb;have n2_:=Aside0.mk (below_step (Up.Bx HB) hb);clear BK425 HB;have HO434:=n0_;have BK425:=n1_;have HB:=n2_;clear n0_ n1_ n2_ hb ho25;have hcz26_0:=Up.c0 BK425;have hcz26_1:=Up.c1 BK425;have hcz26_2:=Up.c2 BK425;have hcz26_3:=Up.c3 BK425;have hfz26_0:=blk_frozen BK425.out 0;have hfz26_1:=blk_frozen BK425.out 1;have hfz26_2:=blk_frozen BK425.out 2;have hfz26_3:=blk_frozen BK425.out 3))
    go_loopg [3,30] k (fun kq v3 v30 w' => ∃ (x3_1 : List ByteArray) (x30_1 : Int),v30 = .int .i64 x30_1 ∧ Aside0 (impl_valueText.l0 kq x3_1 l0_2 (l0_2.length : Int) x30_1 a0_0 a0_1 l0_2 l0_3 = some r) ∧ Aside0 (kq ≤ k) ∧ Aside0 (Kd.R Kd.string 9 w' w.heap.size (fun _ => True) v3 x3_1) ∧ Aside0 (w'.heap[gb425]? = some (.cells #[.string a0_0,.int .i64 a0_1,(.slice A0_2 l0_2.length c0_2),(.slice A0_3 l0_3.length c0_3)] 27 (0,0))) ∧ Aside0 (Below w.heap.size w w'))
    case atStart => exact ⟨(y432),(0),(by first | rfl | (simp;done) | (simp [*];done)),H',⟨Nat.le_refl _⟩,⟨Up.Rup HO434⟩,⟨by (with_reducible repeat (first | refine blk_drewN ?_ _ | refine blk_drew ?_ | refine blk_alloc ?_ _));exact BK425.out⟩,⟨Up.Bx HB⟩⟩
    case round =>
     clear H'
     try clear c1
     try clear c2
     try clear c2b0
     try clear c2b1
     try clear p2
     try clear c3
     try clear p4
     try clear q4
     try clear hx4
     try clear c6
     try clear c7
     try clear c7b0
     try clear c7b1
     try clear c8
     try clear c8b0
     try clear c9
     try clear c9b0
     try clear c16
     try clear c16b0
     try clear c16b1
     try clear c18
     try clear c18b0
     try clear c18b1
     try clear c18b2
     try clear hcz11_0
     try clear hcz11_1
     try clear hcz11_2
     try clear hcz11_3
     try clear hcz14_0
     try clear hcz14_1
     try clear hcz14_2
     try clear hcz14_3
     try clear hcz20_0
     try clear hcz20_1
     try clear hcz20_2
     try clear hcz20_3
     try clear hcz23_0
     try clear hcz23_1
     try clear hcz23_2
     try clear hcz23_3
     try clear hcz26_0
     try clear hcz26_1
     try clear hcz26_2
     try clear hcz26_3
     try clear hcz5_0
     try clear hcz5_1
     try clear hcz5_2
     try clear hcz5_3
     try clear hfz11_0
     try clear hfz11_1
     try clear hfz11_2
     try clear hfz11_3
     try clear hfz14_0
     try clear hfz14_1
     try clear hfz14_2
     try clear hfz14_3
     try clear hfz20_0
     try clear hfz20_1
     try clear hfz20_2
     try clear hfz20_3
     try clear hfz23_0
     try clear hfz23_1
     try clear hfz23_2
     try clear hfz23_3
     try clear hfz26_0
     try clear hfz26_1
     try clear hfz26_2
     try clear hfz26_3
     try clear hfz5_0
     try clear hfz5_1
     try clear hfz5_2
     try clear hfz5_3
     try clear hx430_0
     try clear p430
     try clear q430
     obtain ⟨x3_1,x30_1,rfl,HA,HK1,HO_3,BK425,HB⟩:=hrel
     cases gk with
     | zero => exact absurd HA.out (by simp [impl_valueText.l0])
     | succ k1 =>
      have H:=HA.out
      clear HA
      simp only [impl_valueText.l0] at H
      by_cases c27 : x30_1 < (l0_2.length : Int)
      ·rw [if_pos c27] at H
       have c27b0 : decide (x30_1 < (l0_2.length : Int)) = true:=decide_eq_true c27
       clear c27
       by_cases c28 : 0 ≤ x30_1
       ·rw [if_pos c28] at H
        have c28b0 : decide (0 ≤ x30_1) = true:=decide_eq_true c28
        clear c28
        by_cases c29 : x30_1 < (l0_2.length : Int)
        ·rw [if_pos c29] at H
         have c29b0 : decide (x30_1 < (l0_2.length : Int)) = true:=decide_eq_true c29
         clear c29
         replace H:=Option.bind_eq_some_iff.mp H
         obtain ⟨t437,A300,H⟩:=H
         replace H : (if x3_1.length < 8796093022208 then (impl_valueText.l0 k1 (x3_1 ++ [t437]) l0_2 (l0_2.length : Int) (wrap64 (x30_1 + 1)) a0_0 a0_1 l0_2 l0_3) else (none)) = some r:=H
         have A30:=Aside0.mk A300
         clear A300
         by_cases c31 : x3_1.length < 8796093022208
         ·rw [if_pos c31] at H
          have LMc31:=Aside0.mk c31
          clear c31
          obtain ⟨y438,hy438⟩ : ∃ y_ : List ByteArray,y_ = (x3_1 ++ [t437]):=⟨_,rfl⟩
          replace H : (impl_valueText.l0 k1 y438 l0_2 (l0_2.length : Int) (wrap64 (x30_1 + 1)) a0_0 a0_1 l0_2 l0_3) = some r:=by first | (rw [hy438];with_reducible exact H) | (have H2_:=(Option.bind_some _ _).symm.trans H;rw [hy438];with_reducible exact H2_) | (have H2_:=(Option.bind_some _ _).symm.trans H;with_reducible exact H2_) | with_reducible exact H | (rw [hy438];exact H) | exact H
          have Ny438:=Aside0.mk hy438
          clear hy438
          have H':=Aside0.mk H
          clear H
          have p435 : 0 ≤ (x30_1 : Int):=Up.od
          have q435 : x30_1 < (l0_2.length : Int):=Up.od
          obtain ⟨ad435,A435_2,c435_2,A435_3,c435_3,e435,hx435_0,hx435_1,hx435_2,hx435_3,hl435_2,hi435_2,hl435_3,hi435_3⟩:=at_T27 HR0_2.out x30_1 p435 q435
          cases e435
          replace hx435_0:=Up.hc HB hx435_0
          replace hx435_1:=Up.hc HB hx435_1
          replace hx435_2:=Up.hc HB hx435_2
          replace hx435_3:=Up.hc HB hx435_3
          have HR435_2:=Aside0.mk hi435_2
          have HC435_2:=Aside0.mk hl435_2
          clear hi435_2 hl435_2
          have HR435_3:=Aside0.mk hi435_3
          have HC435_3:=Aside0.mk hl435_3
          clear hi435_3 hl435_3
          replace p435:=eq_true p435
          replace q435:=eq_true q435
          go_wp2_with (first | ((with_reducible refine gate_dst (N:=5) rfl ?_);refine Up.bx 5 27 #[.string (⟨#[]⟩ : ByteArray),.int .i64 0,.slice none 0 0,.slice none 0 0] ?_;intro gb436 hg w32 hbox hb;have n0_:=Up.RB HO_3 hb;have n1_:=Up.KB BK425 hb;have n2_:=Aside0.mk (below_step (Up.Bx HB) hb);have n3_:=Aside0.mk (hbox);have n4_:=Up.gw hg HB;have n5_:=Up.gw hg HB;have n6_:=Up.nl hg BK425;have n7_:=Up.ng hg BK425;clear HO_3 BK425 HB;have HO_3:=n0_;have BK425:=n1_;have HB:=n2_;have BK436:=n3_;have GW436:=n4_;have GE436:=n5_;have NB425_436:=n6_;have NB436_425:=n7_;clear n0_ n1_ n2_ n3_ n4_ n5_ n6_ n7_ hb hbox hg;have hnb33:=NB436_425.out;have hnc33:=NB425_436.out;have hcz34_0:=Up.c0 BK436;have hcz34_1:=Up.c1 BK436;have hcz34_2:=Up.c2 BK436;have hcz34_3:=Up.c3 BK436;have hfz34_0:=blk_frozen BK436.out 0;have hfz34_1:=blk_frozen BK436.out 1;have hfz34_2:=blk_frozen BK436.out 2;have hfz34_3:=blk_frozen BK436.out 3) | ((with_reducible refine gate_callee (f:=32) rfl ?_);refine Up.gl (some 36) Tryd.func32 #[.agg #[.string ((rd_T27 l0_2 x30_1).f0),.int .i64 ((rd_T27 l0_2 x30_1).f1),.slice A435_2 ((rd_T27 l0_2 x30_1).f2).length c435_2,.slice A435_3 ((rd_T27 l0_2 x30_1).f3).length c435_3]] ?_;(with_reducible refine (ih k1 (by have:=HK1.out;omega) ((rd_T27 l0_2 x30_1).f0) ((rd_T27 l0_2 x30_1).f1) _ _ ((rd_T27 l0_2 x30_1).f2) _ _ ((rd_T27 l0_2 x30_1).f3) t437 _ ?tab1 ?side1 ?side2 ?side3 ?side4 A30.out).mono ?_);(case tab1 => exact hT_.below (Up.Bx HB));(case side1 => exact Kd.C_below HR435_2.out (Up.Bx HB));(case side2 => exact HC435_2.out);(case side3 => exact Kd.C_below HR435_3.out (Up.Bx HB));(case side4 => exact HC435_3.out);rintro e w35 ⟨rfl,hb⟩;refine ⟨_,rfl,?_⟩;have n0_:=Aside0.mk (Kd.R_below (by (with_reducible repeat (first | apply Kd.R_alloc | apply Kd.R_drewN | apply Kd.R_drew));exact (Kd.R_mono (Kd.R_far (p:=⟨gb436,3,none⟩) (Kd.R_far (p:=⟨gb436,2,none⟩) (Kd.R_far (p:=⟨gb436,1,none⟩) (Kd.R_far (p:=⟨gb436,0,none⟩) (Kd.R_types HO_3.out BK436.out (by decide)) (fun _ hk => hk.2) (.string ((rd_T27 l0_2 x30_1).f0))) (fun _ hk => hk.2) (.int .i64 ((rd_T27 l0_2 x30_1).f1))) (fun _ hk => hk.2) (.slice A435_2 ((rd_T27 l0_2 x30_1).f2).length c435_2)) (fun _ hk => hk.2) (.slice A435_3 ((rd_T27 l0_2 x30_1).f3).length c435_3)) (fun _ h_ => h_.1))) hb);have n1_:=Aside0.mk (blk_below (g:=gb425) (o:=.cells #[.string a0_0,.int .i64 a0_1,.slice (some ad435) l0_2.length c0_2,.slice A0_3 l0_3.length c0_3] 27 (0,0)) (Up.Kx BK425) hb);have n2_:=Aside0.mk (blk_below (g:=gb436) (o:=.cells #[.string ((rd_T27 l0_2 x30_1).f0),.int .i64 ((rd_T27 l0_2 x30_1).f1),.slice A435_2 ((rd_T27 l0_2 x30_1).f2).length c435_2,.slice A435_3 ((rd_T27 l0_2 x30_1).f3).length c435_3] 27 (0,0)) (Up.Kx BK436) hb);have n3_:=Aside0.mk (below_step (Up.Bx HB) hb);clear HO_3 BK425 BK436 HB;have HO_3:=n0_;have BK425:=n1_;have BK436:=n2_;have HB:=n3_;clear n0_ n1_ n2_ n3_;(try clear hb);(try clear hb2);(try clear hk);(try clear hi)) | ((with_reducible refine gate_builtin (b:=.append) (xs:=#[.tmp 34,.tmp 37]) rfl ?_);at_builtin;refine Kd.R_append Kd.string (w0:=w) w.heap.size rfl (.tmp 34) (.tmp 37) 73 9 (.string ⟨#[]⟩) 16 rfl Tryd.underlying73 info9 rfl (by decide) (by omega) u3 x3_1 t437 [.string t437] (fun _ => True) (fun _ => False) rfl rfl ?aP (fun _ hk => hk.elim) ?aF ?aO ?aB ?aS ?aL ?_;(case aP => exact rfl);(case aB => exact (Up.Bx HB));(case aF => exact (fun _ _ => trivial));(case aO => exact (Up.Rup HO_3));(case aS => exact (below_size (Up.Bx HB)));(case aL => have:=LMc31.out;omega);intro v439 w36 ho hb hg hat;rw [← Ny438.out] at ho;have n0_:=Aside0.mk (blk_grown (g:=gb425) (o:=.cells #[.string a0_0,.int .i64 a0_1,.slice (some ad435) l0_2.length c0_2,.slice A0_3 l0_3.length c0_3] 27 (0,0)) (Up.Kup BK425) hg (Kd.R_ne HO_3.out BK425.out (by decide)));have n1_:=Aside0.mk (blk_grown (g:=gb436) (o:=.cells #[.string ((rd_T27 l0_2 x30_1).f0),.int .i64 ((rd_T27 l0_2 x30_1).f1),.slice A435_2 ((rd_T27 l0_2 x30_1).f2).length c435_2,.slice A435_3 ((rd_T27 l0_2 x30_1).f3).length c435_3] 27 (0,0)) (Up.Kup BK436) hg (Kd.R_ne HO_3.out BK436.out (by decide)));have n2_:=Aside0.mk (hb);have n3_:=Aside0.mk (ho);clear BK425 BK436 HB HO_3;have BK425:=n0_;have BK436:=n1_;have HB:=n2_;have HO440:=n3_;clear n0_ n1_ n2_ n3_ ho hb hg hat))
          go_roundg k1
          case measure => have:=HK1.out;omega
          case rel => exact ⟨(y438),(wrap64 (x30_1 + 1)),(by first | rfl | (simp;done) | (simp [*];done)),H',⟨by have:=HK1.out;omega⟩,⟨Up.Rup HO440⟩,⟨by (with_reducible repeat (first | refine blk_drewN ?_ _ | refine blk_drew ?_ | refine blk_alloc ?_ _));exact BK425.out⟩,⟨Up.Bx HB⟩⟩
         ·rw [if_neg c31] at H
          exact absurd H (by simp)
        ·rw [if_neg c29] at H
         exact absurd H (by simp)
       ·rw [if_neg c28] at H
        exact absurd H (by simp)
      ·rw [if_neg c27] at H
       have c27b0 : decide (x30_1 < (l0_2.length : Int)) = false:=decide_eq_false c27
       clear c27
       by_cases c37 : a0_0.size + 1 ≤ 9223372036854775807
       ·rw [if_pos c37] at H
        have c37b0:=eq_true c37
        have c37b1 : decide (a0_0.size + 1 ≤ 9223372036854775807) = true:=decide_eq_true c37
        try have c37b2 : (9223372036854775807 < a0_0.size + 1) = False:=eq_false (Nat.not_lt.2 c37)
        replace H:=Option.bind_eq_some_iff.mp H
        obtain ⟨t441,A380,H⟩:=H
        replace H : (if (a0_0 ++ (⟨#[40]⟩ : ByteArray)).size + t441.size ≤ 9223372036854775807 then (if ((a0_0 ++ (⟨#[40]⟩ : ByteArray)) ++ t441).size + 1 ≤ 9223372036854775807 then (some (((a0_0 ++ (⟨#[40]⟩ : ByteArray)) ++ t441) ++ (⟨#[41]⟩ : ByteArray))) else (none)) else (none)) = some r:=H
        have A38:=Aside0.mk A380
        clear A380
        by_cases c39 : (a0_0 ++ (⟨#[40]⟩ : ByteArray)).size + t441.size ≤ 9223372036854775807
        ·rw [if_pos c39] at H
         have hzc39_ : (9223372036854775807 < a0_0.size + 1 + t441.size) = False:=eq_false (by have h_:=c39;simp only [ByteArray.size_append] at h_;have h0_ : (⟨#[40]⟩ : ByteArray).size = 1:=rfl;omega)
         have c39b0:=eq_true c39
         have c39b1 : decide ((a0_0 ++ (⟨#[40]⟩ : ByteArray)).size + t441.size ≤ 9223372036854775807) = true:=decide_eq_true c39
         try have c39b2 : (9223372036854775807 < (a0_0 ++ (⟨#[40]⟩ : ByteArray)).size + t441.size) = False:=eq_false (Nat.not_lt.2 c39)
         by_cases c40 : ((a0_0 ++ (⟨#[40]⟩ : ByteArray)) ++ t441).size + 1 ≤ 9223372036854775807
         ·rw [if_pos c40] at H
          have hzc40_ : (9223372036854775807 < a0_0.size + 1 + t441.size + 1) = False:=eq_false (by have h_:=c40;simp only [ByteArray.size_append] at h_;have h0_ : (⟨#[40]⟩ : ByteArray).size = 1:=rfl;omega)
          have c40b0:=eq_true c40
          have c40b1 : decide (((a0_0 ++ (⟨#[40]⟩ : ByteArray)) ++ t441).size + 1 ≤ 9223372036854775807) = true:=decide_eq_true c40
          try have c40b2 : (9223372036854775807 < ((a0_0 ++ (⟨#[40]⟩ : ByteArray)) ++ t441).size + 1) = False:=eq_false (Nat.not_lt.2 c40)
          obtain rfl:=Option.some.inj H
          try go_wp2
          have n0_:=Aside0.mk (Kd.R_drew HO_3.out)
          have n1_:=Aside0.mk (blk_drew BK425.out)
          have n2_:=Aside0.mk (below_drew1 HB.out)
          clear HO_3
          clear BK425
          clear HB
          have HO_3:=n0_
          have BK425:=n1_
          have HB:=n2_
          clear n0_ n1_ n2_
          obtain ⟨Ao42,co42,eo42⟩:=Kd.R_slice HO_3.out
          (first | subst eo42 | (injection eo42 with f1_ f2_ f3_;have f4_:=f1_.symm;have f5_:=f3_.symm;clear f1_ f2_ f3_;subst f4_;subst f5_))
          refine start_ (n:=8) (S:=fun w' => w'.cell? ⟨gb425,0,none⟩ = some (.string a0_0) ∧ w'.cell? ⟨gb425,1,none⟩ = some (.int .i64 a0_1) ∧ w'.cell? ⟨gb425,2,none⟩ = some (.slice A0_2 l0_2.length c0_2) ∧ w'.cell? ⟨gb425,3,none⟩ = some (.slice A0_3 l0_3.length c0_3)) (ds:=[]) #[false,false,false,false,false,false,false,false] (by kernel_rfl) rfl rfl ⟨Up.c0 BK425,Up.c1 BK425,Up.c2 BK425,Up.c3 BK425⟩ (fun hHeld => ?_);refine with_tabW impl_valueText.tab14 impl_valueText.bits14 (fun HT_ HW_ => ?_)
          generalize wr.drew = w41 at HO_3 BK425 HB hHeld ⊢
          refine Up.pu 0 (some 40) HT_ ?_
          refine Up.pu 3 (some 43) HT_ ?_
          refine Up.tk 1 (some 41) HT_ HW_ hHeld ?_ (hy:=by rintro w' ⟨s0,s1,s2,s3⟩;go_simp;with_reducible rfl)
          refine Up.pu 2 (some 42) HT_ ?_
          refine Up.on 4 (some 44) HT_ (fun K hK => ?_)
          refine Up.go Tryd.func61 #[.slice Ao42 x3_1.length co42,.string (⟨#[32]⟩ : ByteArray)] ?_
          with_reducible refine (strings_Join.calls _ _ x3_1 (⟨#[32]⟩ : ByteArray) t441 _ ?side1 ?side2 A38.out).mono ?_
          (case side1 => repeat (first | exact (Kd.R_reads' HO_3.out).2.2 | (with_reducible refine Kd.C_alloc ?_ _) | (with_reducible refine Kd.C_drewN ?_ _) | (with_reducible refine Kd.C_drew ?_)))
          (case side2 => exact (Kd.R_reads' HO_3.out).2.1)
          rintro e w43 ⟨rfl,hb⟩
          refine ⟨_,rfl,?_⟩
          have n0_:=Up.RB HO_3 hb
          have n1_:=Up.KB BK425 hb
          have n2_:=Aside0.mk (below_step (Up.Bx HB) hb)
          clear HO_3
          clear BK425
          clear HB
          have HO_3:=n0_
          have BK425:=n1_
          have HB:=n2_
          clear n0_ n1_ n2_
          (try clear hb)
          (try clear hb2)
          (try clear hk)
          (try clear hi)
          refine hK.out _ _ ⟨Up.c0 BK425,Up.c1 BK425,Up.c2 BK425,Up.c3 BK425⟩ (fun hHeld => ?_)
          clear hK K
          refine Up.nm 44 ?_
          refine Up.pu 5 (some 45) HT_ ?_
          refine Up.pu 6 (some 46) HT_ ?_
          refine Up.pu 7 (some 2) HT_ ?_
          refine done_ (done_of HT_.out (by kernel_rfl)) ?_
          try go_wp2
          go_ret
          exact Up.e1 (Up.Bx HB)
         ·rw [if_neg c40] at H
          exact absurd H (by simp)
        ·rw [if_neg c39] at H
         exact absurd H (by simp)
       ·rw [if_neg c37] at H
        exact absurd H (by simp)

/-! ### impl_ValueText: function 10 -/
def impl_ValueText.f (k : Nat) (l0 : List (List (S81))) (a1_0 : ByteArray) (a1_1 : Int) (l1_2 : List (S27)) (l1_3 : List Int) : Option (ByteArray):=(impl_ValueOk.f k l0 a1_0 a1_1 l1_2 l1_3).bind fun t443 => (if t443 = true then ((impl_valueText.f k a1_0 a1_1 l1_2 l1_3).bind fun t444 => (some t444)) else (some (⟨#[]⟩ : ByteArray)))
theorem impl_ValueText.mono : ∀ a0 a1 a2 a3 a4 k,LeO (impl_ValueText.f k a0 a1 a2 a3 a4) (impl_ValueText.f (k + 1) a0 a1 a2 a3 a4):=by
 intro a0 a1 a2 a3 a4 k
 unfold impl_ValueText.f
 repeat' first
   | (with_reducible exact impl_ValueOk.mono _ _ _ _ _ _)
   | (with_reducible exact impl_valueText.mono _ _ _ _ _)
   | (with_reducible exact LeO.refl _)
   | (with_reducible exact LeO.none _)
   | (with_reducible refine LeO.ite ?_ ?_)
   | (with_reducible refine LeO.bind ?_ (fun _ => ?_))
   | exact impl_ValueOk.mono _ _ _ _ _ _
   | exact impl_valueText.mono _ _ _ _ _
   | exact LeO.none _
   | refine LeO.ite ?_ ?_
   | refine LeO.bind ?_ (fun _ => ?_)
set_option maxHeartbeats 8000000 in
set_option maxRecDepth 100000 in
theorem impl_ValueText.calls (k : Nat) (A0 : Option Addr) (c0 : Nat) (l0 : List (List (S81))) (a1_0 : ByteArray) (a1_1 : Int) (A1_2 : Option Addr) (c1_2 : Nat) (l1_2 : List (S27)) (A1_3 : Option Addr) (c1_3 : Nat) (l1_3 : List Int) (r : ByteArray) (w : World) (hT_ : Tab w) (hr0 : Kd.C (Kd.slice 81 k81) w A0 l0.length l0) (hc0 : l0.length ≤ c0) (hr1_2 : Kd.C k27 w A1_2 l1_2.length l1_2) (hc1_2 : l1_2.length ≤ c1_2) (hr1_3 : Kd.C (Kd.int .i64) w A1_3 l1_3.length l1_3) (hc1_3 : l1_3.length ≤ c1_3) (h : impl_ValueText.f k l0 a1_0 a1_1 l1_2 l1_3 = some r) :
  Calls Tryd.prog 10 #[.slice A0 l0.length c0,.agg #[.string a1_0,.int .i64 a1_1,.slice A1_2 l1_2.length c1_2,.slice A1_3 l1_3.length c1_3]] w fun e w' => e = .returned (.string r) ∧ Below w.heap.size w w':=by
 have hu27:=Tryd.underlying27
 have HR0:=Aside0.mk hr0
 have HC0:=Aside0.mk hc0
 clear hr0 hc0
 have HR1_2:=Aside0.mk hr1_2
 have HC1_2:=Aside0.mk hc1_2
 clear hr1_2 hc1_2
 have HR1_3:=Aside0.mk hr1_3
 have HC1_3:=Aside0.mk hc1_3
 clear hr1_3 hc1_3
 have HB:=Aside0.mk (Below.refl w.heap.size w)
 have H : ((impl_ValueOk.f k l0 a1_0 a1_1 l1_2 l1_3).bind fun t443 => (if t443 = true then ((impl_valueText.f k a1_0 a1_1 l1_2 l1_3).bind fun t444 => (some t444)) else (some (⟨#[]⟩ : ByteArray)))) = some r:=h
 clear h
 replace H:=Option.bind_eq_some_iff.mp H
 obtain ⟨t443,A30,H⟩:=H
 replace H : (if t443 = true then ((impl_valueText.f k a1_0 a1_1 l1_2 l1_3).bind fun t444 => (some t444)) else (some (⟨#[]⟩ : ByteArray))) = some r:=H
 have A3:=Aside0.mk A30
 clear A30
 by_cases c4 : t443 = true
 ·subst c4
  have H1 : ((impl_valueText.f k a1_0 a1_1 l1_2 l1_3).bind fun t444 => (some t444)) = some r:=by rw [if_pos rfl] at H;exact H
  clear H
  have H:=H1
  clear H1
  replace H:=Option.bind_eq_some_iff.mp H
  obtain ⟨t444,A50,H⟩:=H
  replace H : (some t444) = some r:=H
  have A5:=Aside0.mk A50
  clear A50
  obtain rfl:=Option.some.inj H
  go_enter Tryd.func10,Tryd.ntmps10
  go_wp2_with (first | ((with_reducible refine gate_dst (N:=3) rfl ?_);refine Up.bx 3 27 #[.string a1_0,.int .i64 a1_1,.slice A1_2 l1_2.length c1_2,.slice A1_3 l1_3.length c1_3] ?_;intro gb442 hg w6 hbox hb;have n0_:=Up.BB HB hb;have n1_:=Aside0.mk (hbox);have n2_:=Up.gw hg HB;have n3_:=Up.gw hg HB;clear HB;have HB:=n0_;have BK442:=n1_;have GW442:=n2_;have GE442:=n3_;clear n0_ n1_ n2_ n3_ hb hbox hg;have hcz7_0:=Up.c0 BK442;have hcz7_1:=Up.c1 BK442;have hcz7_2:=Up.c2 BK442;have hcz7_3:=Up.c3 BK442;have hfz7_0:=blk_frozen BK442.out 0;have hfz7_1:=blk_frozen BK442.out 1;have hfz7_2:=blk_frozen BK442.out 2;have hfz7_3:=blk_frozen BK442.out 3) | ((with_reducible refine gate_callee (f:=8) rfl ?_);refine Up.gl (some 7) Tryd.func8 #[.slice A0 l0.length c0,.agg #[.string a1_0,.int .i64 a1_1,.slice A1_2 l1_2.length c1_2,.slice A1_3 l1_3.length c1_3]] ?_;(with_reducible refine (impl_ValueOk.calls k _ _ l0 a1_0 a1_1 _ _ l1_2 _ _ l1_3 true _ ?side1 ?side2 ?side3 ?side4 ?side5 ?side6 A3.out).mono ?_);(case side1 => exact Up.Cx HR0 HB);(case side2 => exact HC0.out);(case side3 => exact Up.Cx HR1_2 HB);(case side4 => exact HC1_2.out);(case side5 => exact Up.Cx HR1_3 HB);(case side6 => exact HC1_3.out);rintro e w8 ⟨rfl,hb⟩;refine ⟨_,rfl,?_⟩;have n0_:=Up.KB BK442 hb;have n1_:=Aside0.mk (below_step (Up.Bx HB) hb);clear BK442 HB;have BK442:=n0_;have HB:=n1_;clear n0_ n1_;(try clear hb);(try clear hb2);(try clear hk);(try clear hi);have hcz9_0:=Up.c0 BK442;have hcz9_1:=Up.c1 BK442;have hcz9_2:=Up.c2 BK442;have hcz9_3:=Up.c3 BK442;have hfz9_0:=blk_frozen BK442.out 0;have hfz9_1:=blk_frozen BK442.out 1;have hfz9_2:=blk_frozen BK442.out 2;have hfz9_3:=blk_frozen BK442.out 3) | ((with_reducible refine gate_callee (f:=32) rfl ?_);refine Up.gl (some 10) Tryd.func32 #[.agg #[.string a1_0,.int .i64 a1_1,.slice A1_2 l1_2.length c1_2,.slice A1_3 l1_3.length c1_3]] ?_;(with_reducible refine (impl_valueText.calls (hT_:=?tab1) k a1_0 a1_1 _ _ l1_2 _ _ l1_3 t444 _ ?side1 ?side2 ?side3 ?side4 A5.out).mono ?_);(case tab1 => exact hT_.below (Up.Bx HB));(case side1 => exact Up.Cx HR1_2 HB);(case side2 => exact HC1_2.out);(case side3 => exact Up.Cx HR1_3 HB);(case side4 => exact HC1_3.out);rintro e w10 ⟨rfl,hb⟩;refine ⟨_,rfl,?_⟩;have n0_:=Up.KB BK442 hb;have n1_:=Aside0.mk (below_step (Up.Bx HB) hb);clear BK442 HB;have BK442:=n0_;have HB:=n1_;clear n0_ n1_;(try clear hb);(try clear hb2);(try clear hk);(try clear hi)))
  go_ret
  exact Up.e1 (Up.Bx HB)
 ·replace c4:=Bool.eq_false_iff.mpr c4
  subst c4
  have H1 : (some (⟨#[]⟩ : ByteArray)) = some r:=by rw [if_neg (show ¬ (false = true) by decide)] at H;exact H
  clear H
  have H:=H1
  clear H1
  obtain rfl:=Option.some.inj H
  go_enter Tryd.func10,Tryd.ntmps10
  go_wp2_with (first | ((with_reducible refine gate_dst (N:=3) rfl ?_);refine Up.bx 3 27 #[.string a1_0,.int .i64 a1_1,.slice A1_2 l1_2.length c1_2,.slice A1_3 l1_3.length c1_3] ?_;intro gb442 hg w11 hbox hb;have n0_:=Up.BB HB hb;have n1_:=Aside0.mk (hbox);have n2_:=Up.gw hg HB;have n3_:=Up.gw hg HB;clear HB;have HB:=n0_;have BK442:=n1_;have GW442:=n2_;have GE442:=n3_;clear n0_ n1_ n2_ n3_ hb hbox hg;have hcz12_0:=Up.c0 BK442;have hcz12_1:=Up.c1 BK442;have hcz12_2:=Up.c2 BK442;have hcz12_3:=Up.c3 BK442;have hfz12_0:=blk_frozen BK442.out 0;have hfz12_1:=blk_frozen BK442.out 1;have hfz12_2:=blk_frozen BK442.out 2;have hfz12_3:=blk_frozen BK442.out 3) | ((with_reducible refine gate_callee (f:=8) rfl ?_);refine Up.gl (some 7) Tryd.func8 #[.slice A0 l0.length c0,.agg #[.string a1_0,.int .i64 a1_1,.slice A1_2 l1_2.length c1_2,.slice A1_3 l1_3.length c1_3]] ?_;(with_reducible refine (impl_ValueOk.calls k _ _ l0 a1_0 a1_1 _ _ l1_2 _ _ l1_3 false _ ?side1 ?side2 ?side3 ?side4 ?side5 ?side6 A3.out).mono ?_);(case side1 => exact Up.Cx HR0 HB);(case side2 => exact HC0.out);(case side3 => exact Up.Cx HR1_2 HB);(case side4 => exact HC1_2.out);(case side5 => exact Up.Cx HR1_3 HB);(case side6 => exact HC1_3.out);rintro e w13 ⟨rfl,hb⟩;refine ⟨_,rfl,?_⟩;have n0_:=Up.KB BK442 hb;have n1_:=Aside0.mk (below_step (Up.Bx HB) hb);clear BK442 HB;have BK442:=n0_;have HB:=n1_;clear n0_ n1_;(try clear hb);(try clear hb2);(try clear hk);(try clear hi)))
  go_ret
  exact Up.e1 (Up.Bx HB)

/-! ### laws_FnValueOk: function 3 -/
theorem bneNil_ (l : List UInt8) : (l != ([] : List UInt8)) = !l.isEmpty:=by cases l <;> rfl
def laws_FnValueOk.f (k : Nat) (l0 : List Int) : Option (Bool):=if (l0.length : Int) > 1048576 then (some true) else ((spec_DrawValueOk.f k l0).bind fun bt445 => ((impl_ValueOk.f k bt445.1 bt445.2.1 bt445.2.2.1 bt445.2.2.2.1 bt445.2.2.2.2).bind fun t457 => ((spec_ValueOk.f k bt445.1 bt445.2.1 bt445.2.2.1 bt445.2.2.2.1 bt445.2.2.2.2).bind fun t458 => (if (t457 != t458) = true then (some false) else ((impl_ValueText.f k bt445.1 bt445.2.1 bt445.2.2.1 bt445.2.2.2.1 bt445.2.2.2.2).bind fun t459 => (some (t457 == (t459.toList != ([] : List UInt8)))))))))
theorem laws_FnValueOk.mono : ∀ a0 k,LeO (laws_FnValueOk.f k a0) (laws_FnValueOk.f (k + 1) a0):=by
 intro a0 k
 unfold laws_FnValueOk.f
 repeat' first
   | (with_reducible exact impl_ValueOk.mono _ _ _ _ _ _)
   | (with_reducible exact impl_ValueText.mono _ _ _ _ _ _)
   | (with_reducible exact spec_DrawValueOk.mono _ _)
   | (with_reducible exact spec_ValueOk.mono _ _ _ _ _ _)
   | (with_reducible exact LeO.refl _)
   | (with_reducible exact LeO.none _)
   | (with_reducible refine LeO.ite ?_ ?_)
   | (with_reducible refine LeO.bind ?_ (fun _ => ?_))
   | exact impl_ValueOk.mono _ _ _ _ _ _
   | exact impl_ValueText.mono _ _ _ _ _ _
   | exact spec_DrawValueOk.mono _ _
   | exact spec_ValueOk.mono _ _ _ _ _ _
   | exact LeO.none _
   | refine LeO.ite ?_ ?_
   | refine LeO.bind ?_ (fun _ => ?_)
set_option maxHeartbeats 8000000 in
set_option maxRecDepth 100000 in
theorem laws_FnValueOk.calls (k : Nat) (A0 : Option Addr) (c0 : Nat) (l0 : List Int) (r : Bool) (w : World) (hT_ : Tab w) (hr0 : Kd.C (Kd.int .u8) w A0 l0.length l0) (hc0 : l0.length ≤ c0) (h : laws_FnValueOk.f k l0 = some r) :
  Calls Tryd.prog 3 #[.slice A0 l0.length c0] w fun e w' => e = .returned (.bool r) ∧ Below w.heap.size w w':=by
 have hu27:=Tryd.underlying27
 have HR0:=Aside0.mk hr0
 have HC0:=Aside0.mk hc0
 clear hr0 hc0
 have HB:=Aside0.mk (Below.refl w.heap.size w)
 have H : (if (l0.length : Int) > 1048576 then (some true) else ((spec_DrawValueOk.f k l0).bind fun bt445 => ((impl_ValueOk.f k bt445.1 bt445.2.1 bt445.2.2.1 bt445.2.2.2.1 bt445.2.2.2.2).bind fun t457 => ((spec_ValueOk.f k bt445.1 bt445.2.1 bt445.2.2.1 bt445.2.2.2.1 bt445.2.2.2.2).bind fun t458 => (if (t457 != t458) = true then (some false) else ((impl_ValueText.f k bt445.1 bt445.2.1 bt445.2.2.1 bt445.2.2.2.1 bt445.2.2.2.2).bind fun t459 => (some (t457 == (t459.toList != ([] : List UInt8)))))))))) = some r:=h
 clear h
 by_cases c2 : (l0.length : Int) > 1048576
 ·rw [if_pos c2] at H
  have c2b0 : decide (1048576 < (l0.length : Int)) = true:=decide_eq_true c2
  have c2b1 : decide (1048576 < l0.length) = true:=decide_eq_true (by omega)
  clear c2
  obtain rfl:=Option.some.inj H
  go_enter Tryd.func3,Tryd.ntmps3
  go_wp2
  go_ret
  exact ⟨by first | rfl | (rw [bneNil_];rfl) | (simp [errW_none,errW_some] <;> rfl) | (simp [*,errW_none,errW_some] <;> rfl),Up.Bup HB⟩
 ·rw [if_neg c2] at H
  have c2b0 : decide (1048576 < (l0.length : Int)) = false:=decide_eq_false c2
  have c2b1 : decide (1048576 < l0.length) = false:=decide_eq_false (by omega)
  clear c2
  replace H:=Option.bind_eq_some_iff.mp H
  obtain ⟨⟨t445,t448,t449,t450,t453⟩,A30,H⟩:=H
  replace H : ((impl_ValueOk.f k t445 t448 t449 t450 t453).bind fun t457 => ((spec_ValueOk.f k t445 t448 t449 t450 t453).bind fun t458 => (if (t457 != t458) = true then (some false) else ((impl_ValueText.f k t445 t448 t449 t450 t453).bind fun t459 => (some (t457 == (t459.toList != ([] : List UInt8)))))))) = some r:=H
  have A3:=Aside0.mk A30
  clear A30
  replace H:=Option.bind_eq_some_iff.mp H
  obtain ⟨t457,A40,H⟩:=H
  replace H : ((spec_ValueOk.f k t445 t448 t449 t450 t453).bind fun t458 => (if (t457 != t458) = true then (some false) else ((impl_ValueText.f k t445 t448 t449 t450 t453).bind fun t459 => (some (t457 == (t459.toList != ([] : List UInt8))))))) = some r:=H
  have A4:=Aside0.mk A40
  clear A40
  replace H:=Option.bind_eq_some_iff.mp H
  obtain ⟨t458,A50,H⟩:=H
  replace H : (if (t457 != t458) = true then (some false) else ((impl_ValueText.f k t445 t448 t449 t450 t453).bind fun t459 => (some (t457 == (t459.toList != ([] : List UInt8)))))) = some r:=H
  have A5:=Aside0.mk A50
  clear A50
  by_cases c6 : (t457 != t458) = true
  ·rw [if_pos c6] at H
   have c6b0 : (t457 != t458) = true:=c6
   (try (have c6b1 : decide (t457 = t458) = false:=by simpa using c6))
   (try (have c6b2 : (t457 == t458) = false:=by simpa using c6))
   (try (have c6b3 : ¬ (t457 = t458):=by simpa using c6))
   clear c6
   obtain rfl:=Option.some.inj H
   go_enter Tryd.func3,Tryd.ntmps3
   go_wp2_with (first | ((with_reducible refine gate_callee (f:=7) rfl ?_);refine Up.gl (some 12) Tryd.func7 #[.slice A0 l0.length c0] ?_;(with_reducible refine (spec_DrawValueOk.calls k _ _ l0 t445 t448 t449 t450 t453 _ ?side1 ?side2 A3.out).mono ?_);(case side1 => repeat (first | exact HR0.out | (with_reducible refine Kd.C_alloc ?_ _) | (with_reducible refine Kd.C_drewN ?_ _) | (with_reducible refine Kd.C_drew ?_)));(case side2 => exact HC0.out);rintro e w7 ⟨v446,v451,v454,rfl,ho0,ho1,ho2,hb⟩;refine ⟨_,rfl,?_⟩;have n0_:=Aside0.mk (Kd.N_lower (Kd.N_mono (ok':=fun k_ => True) ho0 (fun k_ hk_ => trivial)) (below_size (Up.Bup HB)));have n1_:=Aside0.mk (Kd.V_lower (Kd.V_mono (ok':=fun k_ => some k_ ≠ (v446 : Value).ownBlock) ho1 (fun k_ hk_ => hk_.2)) (below_size (Up.Bup HB)));have n2_:=Aside0.mk (Kd.V_lower (Kd.V_mono (ok':=fun k_ => some k_ ≠ (v446 : Value).ownBlock) ho2 (fun k_ hk_ => hk_.2)) (below_size (Up.Bup HB)));have n3_:=Up.BB HB hb;clear HB;have HO447:=n0_;have HO452:=n1_;have HO455:=n2_;have HB:=n3_;clear n0_ n1_ n2_ n3_;(try clear hb);(try clear hb2);(try clear hk);(try clear hi);(try clear ho0);(try clear ho1);(try clear ho2)) | ((with_reducible refine gate_dst (N:=4) rfl ?_);refine Up.bx 4 27 #[.string (⟨#[]⟩ : ByteArray),.int .i64 0,.slice none 0 0,.slice none 0 0] ?_;intro gb456 hg w8 hbox hb;have n0_:=Aside0.mk (Kd.N_below (Kd.N_elderB (Up.Nup HO447) gb456 (Nat.le_of_eq hg.symm)) hb);have n1_:=Aside0.mk (Kd.V_below (Kd.V_elderB (Up.Vup HO452) gb456 (Nat.le_of_eq hg.symm)) hb);have n2_:=Aside0.mk (Kd.V_below (Kd.V_elderB (Up.Vup HO455) gb456 (Nat.le_of_eq hg.symm)) hb);have n3_:=Up.BB HB hb;have n4_:=Aside0.mk (hbox);have n5_:=Up.gw hg HB;have n6_:=Up.gw hg HB;clear HO447 HO452 HO455 HB;have HO447:=n0_;have HO452:=n1_;have HO455:=n2_;have HB:=n3_;have BK456:=n4_;have GW456:=n5_;have GE456:=n6_;clear n0_ n1_ n2_ n3_ n4_ n5_ n6_ hb hbox hg;have hcz9_0:=Up.c0 BK456;have hcz9_1:=Up.c1 BK456;have hcz9_2:=Up.c2 BK456;have hcz9_3:=Up.c3 BK456;have hfz9_0:=blk_frozen BK456.out 0;have hfz9_1:=blk_frozen BK456.out 1;have hfz9_2:=blk_frozen BK456.out 2;have hfz9_3:=blk_frozen BK456.out 3;obtain ⟨Ao10,co10,eo10⟩:=Kd.V_slice HO452.out;subst eo10;obtain ⟨Ao11,co11,eo11⟩:=Kd.V_slice HO455.out;subst eo11;obtain ⟨Ao12,co12,eo12⟩:=Kd.N_slice HO447.out;subst eo12) | ((with_reducible refine gate_callee (f:=8) rfl ?_);refine Up.gl (some 17) Tryd.func8 #[.slice Ao12 t445.length co12,.agg #[.string t448,.int .i64 t449,.slice Ao10 t450.length co10,.slice Ao11 t453.length co11]] ?_;(with_reducible refine (impl_ValueOk.calls k _ _ t445 t448 t449 _ _ t450 _ _ t453 t457 _ ?side1 ?side2 ?side3 ?side4 ?side5 ?side6 A4.out).mono ?_);(case side1 => refine (Kd.N_reads' (e:=66) (base:=w.heap.size) (ok:=fun k_ => (True ∧ k_ ≠ gb456)) (n:=t445.length) (c:=co12) ?_).2.2;exact (by (with_reducible repeat (first | apply Kd.N_alloc | apply Kd.N_drewN | apply Kd.N_drew));exact (Kd.N_mono (Kd.N_far (p:=⟨gb456,3,none⟩) (Kd.N_far (p:=⟨gb456,2,none⟩) (Kd.N_far (p:=⟨gb456,1,none⟩) (Kd.N_far (p:=⟨gb456,0,none⟩) (Kd.N_mono HO447.out (fun k_ hk => (⟨hk,hk.2⟩ : _ ∧ k_ ≠ gb456))) (fun _ hk => hk.2) (.string t448)) (fun _ hk => hk.2) (.int .i64 t449)) (fun _ hk => hk.2) (.slice Ao10 t450.length co10)) (fun _ hk => hk.2) (.slice Ao11 t453.length co11)) (fun _ h_ => h_.1))));(case side2 => exact (Kd.N_reads' HO447.out).2.1);(case side3 => refine (Kd.V_reads' (e:=27) (base:=w.heap.size) (ok:=fun k_ => (some k_ ≠ (.slice Ao12 t445.length co12 : Value).ownBlock ∧ k_ ≠ gb456)) (n:=t450.length) (c:=co10) ?_).2.2;exact (by (with_reducible repeat (first | apply Kd.V_alloc | apply Kd.V_drewN | apply Kd.V_drew));exact (Kd.V_mono (Kd.V_far (p:=⟨gb456,3,none⟩) (Kd.V_far (p:=⟨gb456,2,none⟩) (Kd.V_far (p:=⟨gb456,1,none⟩) (Kd.V_far (p:=⟨gb456,0,none⟩) (Kd.V_mono HO452.out (fun k_ hk => (⟨hk,hk.2⟩ : _ ∧ k_ ≠ gb456))) (fun _ hk => hk.2) (.string t448)) (fun _ hk => hk.2) (.int .i64 t449)) (fun _ hk => hk.2) (.slice Ao10 t450.length co10)) (fun _ hk => hk.2) (.slice Ao11 t453.length co11)) (fun _ h_ => h_.1))));(case side4 => exact (Kd.V_reads' HO452.out).2.1);(case side5 => refine (Kd.V_reads' (e:=3) (base:=w.heap.size) (ok:=fun k_ => (some k_ ≠ (.slice Ao12 t445.length co12 : Value).ownBlock ∧ k_ ≠ gb456)) (n:=t453.length) (c:=co11) ?_).2.2;exact (by (with_reducible repeat (first | apply Kd.V_alloc | apply Kd.V_drewN | apply Kd.V_drew));exact (Kd.V_mono (Kd.V_far (p:=⟨gb456,3,none⟩) (Kd.V_far (p:=⟨gb456,2,none⟩) (Kd.V_far (p:=⟨gb456,1,none⟩) (Kd.V_far (p:=⟨gb456,0,none⟩) (Kd.V_mono HO455.out (fun k_ hk => (⟨hk,hk.2⟩ : _ ∧ k_ ≠ gb456))) (fun _ hk => hk.2) (.string t448)) (fun _ hk => hk.2) (.int .i64 t449)) (fun _ hk => hk.2) (.slice Ao10 t450.length co10)) (fun _ hk => hk.2) (.slice Ao11 t453.length co11)) (fun _ h_ => h_.1))));(case side6 => exact (Kd.V_reads' HO455.out).2.1);rintro e w13 ⟨rfl,hb⟩;refine ⟨_,rfl,?_⟩;have n0_:=Aside0.mk (Kd.N_below (by (with_reducible repeat (first | apply Kd.N_alloc | apply Kd.N_drewN | apply Kd.N_drew));exact (Kd.N_mono (Kd.N_far (p:=⟨gb456,3,none⟩) (Kd.N_far (p:=⟨gb456,2,none⟩) (Kd.N_far (p:=⟨gb456,1,none⟩) (Kd.N_far (p:=⟨gb456,0,none⟩) (Kd.N_mono HO447.out (fun k_ hk => (⟨hk,hk.2⟩ : _ ∧ k_ ≠ gb456))) (fun _ hk => hk.2) (.string t448)) (fun _ hk => hk.2) (.int .i64 t449)) (fun _ hk => hk.2) (.slice Ao10 t450.length co10)) (fun _ hk => hk.2) (.slice Ao11 t453.length co11)) (fun _ h_ => h_.1))) hb);have n1_:=Aside0.mk (Kd.V_below (by (with_reducible repeat (first | apply Kd.V_alloc | apply Kd.V_drewN | apply Kd.V_drew));exact (Kd.V_mono (Kd.V_far (p:=⟨gb456,3,none⟩) (Kd.V_far (p:=⟨gb456,2,none⟩) (Kd.V_far (p:=⟨gb456,1,none⟩) (Kd.V_far (p:=⟨gb456,0,none⟩) (Kd.V_mono HO452.out (fun k_ hk => (⟨hk,hk.2⟩ : _ ∧ k_ ≠ gb456))) (fun _ hk => hk.2) (.string t448)) (fun _ hk => hk.2) (.int .i64 t449)) (fun _ hk => hk.2) (.slice Ao10 t450.length co10)) (fun _ hk => hk.2) (.slice Ao11 t453.length co11)) (fun _ h_ => h_.1))) hb);have n2_:=Aside0.mk (Kd.V_below (by (with_reducible repeat (first | apply Kd.V_alloc | apply Kd.V_drewN | apply Kd.V_drew));exact (Kd.V_mono (Kd.V_far (p:=⟨gb456,3,none⟩) (Kd.V_far (p:=⟨gb456,2,none⟩) (Kd.V_far (p:=⟨gb456,1,none⟩) (Kd.V_far (p:=⟨gb456,0,none⟩) (Kd.V_mono HO455.out (fun k_ hk => (⟨hk,hk.2⟩ : _ ∧ k_ ≠ gb456))) (fun _ hk => hk.2) (.string t448)) (fun _ hk => hk.2) (.int .i64 t449)) (fun _ hk => hk.2) (.slice Ao10 t450.length co10)) (fun _ hk => hk.2) (.slice Ao11 t453.length co11)) (fun _ h_ => h_.1))) hb);have n3_:=Aside0.mk (blk_below (g:=gb456) (o:=.cells #[.string t448,.int .i64 t449,.slice Ao10 t450.length co10,.slice Ao11 t453.length co11] 27 (0,0)) (Up.Kx BK456) hb);have n4_:=Aside0.mk (below_step (Up.Bx HB) hb);clear HO447 HO452 HO455 BK456 HB;have HO447:=n0_;have HO452:=n1_;have HO455:=n2_;have BK456:=n3_;have HB:=n4_;clear n0_ n1_ n2_ n3_ n4_;(try clear hb);(try clear hb2);(try clear hk);(try clear hi);have hcz14_0:=Up.c0 BK456;have hcz14_1:=Up.c1 BK456;have hcz14_2:=Up.c2 BK456;have hcz14_3:=Up.c3 BK456;have hfz14_0:=blk_frozen BK456.out 0;have hfz14_1:=blk_frozen BK456.out 1;have hfz14_2:=blk_frozen BK456.out 2;have hfz14_3:=blk_frozen BK456.out 3) | ((with_reducible refine gate_callee (f:=9) rfl ?_);refine Up.gl (some 20) Tryd.func9 #[.slice Ao12 t445.length co12,.agg #[.string t448,.int .i64 t449,.slice Ao10 t450.length co10,.slice Ao11 t453.length co11]] ?_;(with_reducible refine (spec_ValueOk.calls k _ _ t445 t448 t449 _ _ t450 _ _ t453 t458 _ ?side1 ?side2 ?side3 ?side4 ?side5 ?side6 A5.out).mono ?_);(case side1 => repeat (first | exact (Kd.N_reads' HO447.out).2.2 | (with_reducible refine Kd.C_alloc ?_ _) | (with_reducible refine Kd.C_drewN ?_ _) | (with_reducible refine Kd.C_drew ?_)));(case side2 => exact (Kd.N_reads' HO447.out).2.1);(case side3 => repeat (first | exact (Kd.V_reads' HO452.out).2.2 | (with_reducible refine Kd.C_alloc ?_ _) | (with_reducible refine Kd.C_drewN ?_ _) | (with_reducible refine Kd.C_drew ?_)));(case side4 => exact (Kd.V_reads' HO452.out).2.1);(case side5 => repeat (first | exact (Kd.V_reads' HO455.out).2.2 | (with_reducible refine Kd.C_alloc ?_ _) | (with_reducible refine Kd.C_drewN ?_ _) | (with_reducible refine Kd.C_drew ?_)));(case side6 => exact (Kd.V_reads' HO455.out).2.1);rintro e w15 ⟨rfl,hb⟩;refine ⟨_,rfl,?_⟩;have n0_:=Up.NB HO447 hb;have n1_:=Up.VB HO452 hb;have n2_:=Up.VB HO455 hb;have n3_:=Up.KB BK456 hb;have n4_:=Aside0.mk (below_step (Up.Bx HB) hb);clear HO447 HO452 HO455 BK456 HB;have HO447:=n0_;have HO452:=n1_;have HO455:=n2_;have BK456:=n3_;have HB:=n4_;clear n0_ n1_ n2_ n3_ n4_;(try clear hb);(try clear hb2);(try clear hk);(try clear hi)))
   go_ret
   exact ⟨by first | rfl | (rw [bneNil_];rfl) | (simp [errW_none,errW_some] <;> rfl) | (simp [*,errW_none,errW_some] <;> rfl),Up.Bx HB⟩
  ·rw [if_neg c6] at H
   have c6b0 : (t457 != t458) = false:=by simpa using c6
   (try (have c6b1 : decide (t457 = t458) = true:=by simpa using c6))
   (try (have c6b2 : (t457 == t458) = true:=by simpa using c6))
   clear c6
   replace H:=Option.bind_eq_some_iff.mp H
   obtain ⟨t459,A160,H⟩:=H
   replace H : (some (t457 == (t459.toList != ([] : List UInt8)))) = some r:=H
   have A16:=Aside0.mk A160
   clear A160
   obtain rfl:=Option.some.inj H
   go_enter Tryd.func3,Tryd.ntmps3
   go_wp2_with (first | ((with_reducible refine gate_callee (f:=7) rfl ?_);refine Up.gl (some 12) Tryd.func7 #[.slice A0 l0.length c0] ?_;(with_reducible refine (spec_DrawValueOk.calls k _ _ l0 t445 t448 t449 t450 t453 _ ?side1 ?side2 A3.out).mono ?_);(case side1 => repeat (first | exact HR0.out | (with_reducible refine Kd.C_alloc ?_ _) | (with_reducible refine Kd.C_drewN ?_ _) | (with_reducible refine Kd.C_drew ?_)));(case side2 => exact HC0.out);rintro e w17 ⟨v446,v451,v454,rfl,ho0,ho1,ho2,hb⟩;refine ⟨_,rfl,?_⟩;have n0_:=Aside0.mk (Kd.N_lower (Kd.N_mono (ok':=fun k_ => True) ho0 (fun k_ hk_ => trivial)) (below_size (Up.Bup HB)));have n1_:=Aside0.mk (Kd.V_lower (Kd.V_mono (ok':=fun k_ => some k_ ≠ (v446 : Value).ownBlock) ho1 (fun k_ hk_ => hk_.2)) (below_size (Up.Bup HB)));have n2_:=Aside0.mk (Kd.V_lower (Kd.V_mono (ok':=fun k_ => some k_ ≠ (v446 : Value).ownBlock) ho2 (fun k_ hk_ => hk_.2)) (below_size (Up.Bup HB)));have n3_:=Up.BB HB hb;clear HB;have HO447:=n0_;have HO452:=n1_;have HO455:=n2_;have HB:=n3_;clear n0_ n1_ n2_ n3_;(try clear hb);(try clear hb2);(try clear hk);(try clear hi);(try clear ho0);(try clear ho1);(try clear ho2)) | ((with_reducible refine gate_dst (N:=4) rfl ?_);refine Up.bx 4 27 #[.string (⟨#[]⟩ : ByteArray),.int .i64 0,.slice none 0 0,.slice none 0 0] ?_;intro gb456 hg w18 hbox hb;have n0_:=Aside0.mk (Kd.N_below (Kd.N_elderB (Up.Nup HO447) gb456 (Nat.le_of_eq hg.symm)) hb);have n1_:=Aside0.mk (Kd.V_below (Kd.V_elderB (Up.Vup HO452) gb456 (Nat.le_of_eq hg.symm)) hb);have n2_:=Aside0.mk (Kd.V_below (Kd.V_elderB (Up.Vup HO455) gb456 (Nat.le_of_eq hg.symm)) hb);have n3_:=Up.BB HB hb;have n4_:=Aside0.mk (hbox);have n5_:=Up.gw hg HB;have n6_:=Up.gw hg HB;clear HO447 HO452 HO455 HB;have HO447:=n0_;have HO452:=n1_;have HO455:=n2_;have HB:=n3_;have BK456:=n4_;have GW456:=n5_;have GE456:=n6_;clear n0_ n1_ n2_ n3_ n4_ n5_ n6_ hb hbox hg;have hcz19_0:=Up.c0 BK456;have hcz19_1:=Up.c1 BK456;have hcz19_2:=Up.c2 BK456;have hcz19_3:=Up.c3 BK456;have hfz19_0:=blk_frozen BK456.out 0;have hfz19_1:=blk_frozen BK456.out 1;have hfz19_2:=blk_frozen BK456.out 2;have hfz19_3:=blk_frozen BK456.out 3;obtain ⟨Ao20,co20,eo20⟩:=Kd.V_slice HO452.out;subst eo20;obtain ⟨Ao21,co21,eo21⟩:=Kd.V_slice HO455.out;subst eo21;obtain ⟨Ao22,co22,eo22⟩:=Kd.N_slice HO447.out;subst eo22) | ((with_reducible refine gate_callee (f:=8) rfl ?_);refine Up.gl (some 17) Tryd.func8 #[.slice Ao22 t445.length co22,.agg #[.string t448,.int .i64 t449,.slice Ao20 t450.length co20,.slice Ao21 t453.length co21]] ?_;(with_reducible refine (impl_ValueOk.calls k _ _ t445 t448 t449 _ _ t450 _ _ t453 t457 _ ?side1 ?side2 ?side3 ?side4 ?side5 ?side6 A4.out).mono ?_);(case side1 => refine (Kd.N_reads' (e:=66) (base:=w.heap.size) (ok:=fun k_ => (True ∧ k_ ≠ gb456)) (n:=t445.length) (c:=co22) ?_).2.2;exact (by (with_reducible repeat (first | apply Kd.N_alloc | apply Kd.N_drewN | apply Kd.N_drew));exact (Kd.N_mono (Kd.N_far (p:=⟨gb456,3,none⟩) (Kd.N_far (p:=⟨gb456,2,none⟩) (Kd.N_far (p:=⟨gb456,1,none⟩) (Kd.N_far (p:=⟨gb456,0,none⟩) (Kd.N_mono HO447.out (fun k_ hk => (⟨hk,hk.2⟩ : _ ∧ k_ ≠ gb456))) (fun _ hk => hk.2) (.string t448)) (fun _ hk => hk.2) (.int .i64 t449)) (fun _ hk => hk.2) (.slice Ao20 t450.length co20)) (fun _ hk => hk.2) (.slice Ao21 t453.length co21)) (fun _ h_ => h_.1))));(case side2 => exact (Kd.N_reads' HO447.out).2.1);(case side3 => refine (Kd.V_reads' (e:=27) (base:=w.heap.size) (ok:=fun k_ => (some k_ ≠ (.slice Ao22 t445.length co22 : Value).ownBlock ∧ k_ ≠ gb456)) (n:=t450.length) (c:=co20) ?_).2.2;exact (by (with_reducible repeat (first | apply Kd.V_alloc | apply Kd.V_drewN | apply Kd.V_drew));exact (Kd.V_mono (Kd.V_far (p:=⟨gb456,3,none⟩) (Kd.V_far (p:=⟨gb456,2,none⟩) (Kd.V_far (p:=⟨gb456,1,none⟩) (Kd.V_far (p:=⟨gb456,0,none⟩) (Kd.V_mono HO452.out (fun k_ hk => (⟨hk,hk.2⟩ : _ ∧ k_ ≠ gb456))) (fun _ hk => hk.2) (.string t448)) (fun _ hk => hk.2) (.int .i64 t449)) (fun _ hk => hk.2) (.slice Ao20 t450.length co20)) (fun _ hk => hk.2) (.slice Ao21 t453.length co21)) (fun _ h_ => h_.1))));(case side4 => exact (Kd.V_reads' HO452.out).2.1);(case side5 => refine (Kd.V_reads' (e:=3) (base:=w.heap.size) (ok:=fun k_ => (some k_ ≠ (.slice Ao22 t445.length co22 : Value).ownBlock ∧ k_ ≠ gb456)) (n:=t453.length) (c:=co21) ?_).2.2;exact (by (with_reducible repeat (first | apply Kd.V_alloc | apply Kd.V_drewN | apply Kd.V_drew));exact (Kd.V_mono (Kd.V_far (p:=⟨gb456,3,none⟩) (Kd.V_far (p:=⟨gb456,2,none⟩) (Kd.V_far (p:=⟨gb456,1,none⟩) (Kd.V_far (p:=⟨gb456,0,none⟩) (Kd.V_mono HO455.out (fun k_ hk => (⟨hk,hk.2⟩ : _ ∧ k_ ≠ gb456))) (fun _ hk => hk.2) (.string t448)) (fun _ hk => hk.2) (.int .i64 t449)) (fun _ hk => hk.2) (.slice Ao20 t450.length co20)) (fun _ hk => hk.2) (.slice Ao21 t453.length co21)) (fun _ h_ => h_.1))));(case side6 => exact (Kd.V_reads' HO455.out).2.1);rintro e w23 ⟨rfl,hb⟩;refine ⟨_,rfl,?_⟩;have n0_:=Aside0.mk (Kd.N_below (by (with_reducible repeat (first | apply Kd.N_alloc | apply Kd.N_drewN | apply Kd.N_drew));exact (Kd.N_mono (Kd.N_far (p:=⟨gb456,3,none⟩) (Kd.N_far (p:=⟨gb456,2,none⟩) (Kd.N_far (p:=⟨gb456,1,none⟩) (Kd.N_far (p:=⟨gb456,0,none⟩) (Kd.N_mono HO447.out (fun k_ hk => (⟨hk,hk.2⟩ : _ ∧ k_ ≠ gb456))) (fun _ hk => hk.2) (.string t448)) (fun _ hk => hk.2) (.int .i64 t449)) (fun _ hk => hk.2) (.slice Ao20 t450.length co20)) (fun _ hk => hk.2) (.slice Ao21 t453.length co21)) (fun _ h_ => h_.1))) hb);have n1_:=Aside0.mk (Kd.V_below (by (with_reducible repeat (first | apply Kd.V_alloc | apply Kd.V_drewN | apply Kd.V_drew));exact (Kd.V_mono (Kd.V_far (p:=⟨gb456,3,none⟩) (Kd.V_far (p:=⟨gb456,2,none⟩) (Kd.V_far (p:=⟨gb456,1,none⟩) (Kd.V_far (p:=⟨gb456,0,none⟩) (Kd.V_mono HO452.out (fun k_ hk => (⟨hk,hk.2⟩ : _ ∧ k_ ≠ gb456))) (fun _ hk => hk.2) (.string t448)) (fun _ hk => hk.2) (.int .i64 t449)) (fun _ hk => hk.2) (.slice Ao20 t450.length co20)) (fun _ hk => hk.2) (.slice Ao21 t453.length co21)) (fun _ h_ => h_.1))) hb);have n2_:=Aside0.mk (Kd.V_below (by (with_reducible repeat (first | apply Kd.V_alloc | apply Kd.V_drewN | apply Kd.V_drew));exact (Kd.V_mono (Kd.V_far (p:=⟨gb456,3,none⟩) (Kd.V_far (p:=⟨gb456,2,none⟩) (Kd.V_far (p:=⟨gb456,1,none⟩) (Kd.V_far (p:=⟨gb456,0,none⟩) (Kd.V_mono HO455.out (fun k_ hk => (⟨hk,hk.2⟩ : _ ∧ k_ ≠ gb456))) (fun _ hk => hk.2) (.string t448)) (fun _ hk => hk.2) (.int .i64 t449)) (fun _ hk => hk.2) (.slice Ao20 t450.length co20)) (fun _ hk => hk.2) (.slice Ao21 t453.length co21)) (fun _ h_ => h_.1))) hb);have n3_:=Aside0.mk (blk_below (g:=gb456) (o:=.cells #[.string t448,.int .i64 t449,.slice Ao20 t450.length co20,.slice Ao21 t453.length co21] 27 (0,0)) (Up.Kx BK456) hb);have n4_:=Aside0.mk (below_step (Up.Bx HB) hb);clear HO447 HO452 HO455 BK456 HB;have HO447:=n0_;have HO452:=n1_;have HO455:=n2_;have BK456:=n3_;have HB:=n4_;clear n0_ n1_ n2_ n3_ n4_;(try clear hb);(try clear hb2);(try clear hk);(try clear hi);have hcz24_0:=Up.c0 BK456;have hcz24_1:=Up.c1 BK456;have hcz24_2:=Up.c2 BK456;have hcz24_3:=Up.c3 BK456;have hfz24_0:=blk_frozen BK456.out 0;have hfz24_1:=blk_frozen BK456.out 1;have hfz24_2:=blk_frozen BK456.out 2;have hfz24_3:=blk_frozen BK456.out 3) | ((with_reducible refine gate_callee (f:=9) rfl ?_);refine Up.gl (some 20) Tryd.func9 #[.slice Ao22 t445.length co22,.agg #[.string t448,.int .i64 t449,.slice Ao20 t450.length co20,.slice Ao21 t453.length co21]] ?_;(with_reducible refine (spec_ValueOk.calls k _ _ t445 t448 t449 _ _ t450 _ _ t453 t458 _ ?side1 ?side2 ?side3 ?side4 ?side5 ?side6 A5.out).mono ?_);(case side1 => repeat (first | exact (Kd.N_reads' HO447.out).2.2 | (with_reducible refine Kd.C_alloc ?_ _) | (with_reducible refine Kd.C_drewN ?_ _) | (with_reducible refine Kd.C_drew ?_)));(case side2 => exact (Kd.N_reads' HO447.out).2.1);(case side3 => repeat (first | exact (Kd.V_reads' HO452.out).2.2 | (with_reducible refine Kd.C_alloc ?_ _) | (with_reducible refine Kd.C_drewN ?_ _) | (with_reducible refine Kd.C_drew ?_)));(case side4 => exact (Kd.V_reads' HO452.out).2.1);(case side5 => repeat (first | exact (Kd.V_reads' HO455.out).2.2 | (with_reducible refine Kd.C_alloc ?_ _) | (with_reducible refine Kd.C_drewN ?_ _) | (with_reducible refine Kd.C_drew ?_)));(case side6 => exact (Kd.V_reads' HO455.out).2.1);rintro e w25 ⟨rfl,hb⟩;refine ⟨_,rfl,?_⟩;have n0_:=Up.NB HO447 hb;have n1_:=Up.VB HO452 hb;have n2_:=Up.VB HO455 hb;have n3_:=Up.KB BK456 hb;have n4_:=Aside0.mk (below_step (Up.Bx HB) hb);clear HO447 HO452 HO455 BK456 HB;have HO447:=n0_;have HO452:=n1_;have HO455:=n2_;have BK456:=n3_;have HB:=n4_;clear n0_ n1_ n2_ n3_ n4_;(try clear hb);(try clear hb2);(try clear hk);(try clear hi);have hcz26_0:=Up.c0 BK456;have hcz26_1:=Up.c1 BK456;have hcz26_2:=Up.c2 BK456;have hcz26_3:=Up.c3 BK456;have hfz26_0:=blk_frozen BK456.out 0;have hfz26_1:=blk_frozen BK456.out 1;have hfz26_2:=blk_frozen BK456.out 2;have hfz26_3:=blk_frozen BK456.out 3) | ((with_reducible refine gate_callee (f:=10) rfl ?_);refine Up.gl (some 27) Tryd.func10 #[.slice Ao22 t445.length co22,.agg #[.string t448,.int .i64 t449,.slice Ao20 t450.length co20,.slice Ao21 t453.length co21]] ?_;(with_reducible refine (impl_ValueText.calls (hT_:=?tab1) k _ _ t445 t448 t449 _ _ t450 _ _ t453 t459 _ ?side1 ?side2 ?side3 ?side4 ?side5 ?side6 A16.out).mono ?_);(case tab1 => exact hT_.below (Up.Bx HB));(case side1 => repeat (first | exact (Kd.N_reads' HO447.out).2.2 | (with_reducible refine Kd.C_alloc ?_ _) | (with_reducible refine Kd.C_drewN ?_ _) | (with_reducible refine Kd.C_drew ?_)));(case side2 => exact (Kd.N_reads' HO447.out).2.1);(case side3 => repeat (first | exact (Kd.V_reads' HO452.out).2.2 | (with_reducible refine Kd.C_alloc ?_ _) | (with_reducible refine Kd.C_drewN ?_ _) | (with_reducible refine Kd.C_drew ?_)));(case side4 => exact (Kd.V_reads' HO452.out).2.1);(case side5 => repeat (first | exact (Kd.V_reads' HO455.out).2.2 | (with_reducible refine Kd.C_alloc ?_ _) | (with_reducible refine Kd.C_drewN ?_ _) | (with_reducible refine Kd.C_drew ?_)));(case side6 => exact (Kd.V_reads' HO455.out).2.1);rintro e w27 ⟨rfl,hb⟩;refine ⟨_,rfl,?_⟩;have n0_:=Up.NB HO447 hb;have n1_:=Up.VB HO452 hb;have n2_:=Up.VB HO455 hb;have n3_:=Up.KB BK456 hb;have n4_:=Aside0.mk (below_step (Up.Bx HB) hb);clear HO447 HO452 HO455 BK456 HB;have HO447:=n0_;have HO452:=n1_;have HO455:=n2_;have BK456:=n3_;have HB:=n4_;clear n0_ n1_ n2_ n3_ n4_;(try clear hb);(try clear hb2);(try clear hk);(try clear hi)))
   go_ret
   exact ⟨by first | rfl | (rw [bneNil_];rfl) | (simp [errW_none,errW_some] <;> rfl) | (simp [*,errW_none,errW_some] <;> rfl),Up.Bx HB⟩

/-- THE ONE PURE STATEMENT of laws_FnValueOk: yours. -/
def laws_FnValueOk.Pure : Prop:=∀ (l0 : List Int),l0.length ≤ maxLen → l0.length * 1 ≤ 140737488351232 → (∀ x ∈ l0,(Lit.int .u8 x).wf = true) → ∃ k,laws_FnValueOk.f k l0 = some true
theorem laws_FnValueOk.walk (P : laws_FnValueOk.Pure) (a0 : Option Addr) (len0 cap0 : Nat) (z0 : List Int) (w : World) (hT_ : Tab w) (w0 : (a0 = none ∧ len0 = 0 ∧ cap0 = 0 ∧ z0 = []) ∨ ∃ x,a0 = some x ∧ len0 ≤ cap0 ∧ cap0 ≤ maxLen ∧ z0.length = cap0 ∧ (∀ i,i < z0.length → w.cell? (x.add i) = some (.int .u8 (z0.getD i 0))) ∧ ∀ n ∈ z0,(Lit.int .u8 n).wf = true) (y0 : len0 * 1 ≤ 140737488351232) :
  Calls Tryd.prog 3 #[.slice a0 len0 cap0] w fun e w' => e = .returned (.bool true) ∧ Below w.heap.size w w':=by
 obtain ⟨l0,rfl,hr0,hm0,hw0,hc0⟩:=ReadsInt.ofRowC w0
 obtain ⟨k,h⟩:=P l0 hm0 y0 hw0
 refine (laws_FnValueOk.calls (hT_:=hT_) k _ _ l0 true w (Kd.C_of_reads (d:=(0 : Int)) (h1:=fun _ => rfl) hr0) hc0 h).mono ?_
 rintro e w' ⟨rfl,hd⟩
 exact ⟨rfl,hd⟩

end Go.Proofs.YtdgmlakgnbmbbaaDoor.OFnValueOk
