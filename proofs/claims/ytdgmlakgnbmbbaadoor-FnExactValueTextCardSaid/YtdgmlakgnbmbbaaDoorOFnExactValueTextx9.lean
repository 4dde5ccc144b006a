-- Laid by a program of this session (wip/myprint.py): the kit's print of the functions, contracts of our own among them.
import Derived.Test.YtdgmlakgnbmbbaaDoorOFnExactValueTextx0
import Derived.Test.YtdgmlakgnbmbbaaDoorOFnExactValueTextx7
import Derived.Test.YtdgmlakgnbmbbaaDoorOFnExactValueTextx8
namespace Go.Proofs.YtdgmlakgnbmbbaaDoor.OFnExactValueText
open Go.RowKit Go.Proofs.YtdgmlakgnbmbbaaDoorW.PrintWords Go.Proofs.YtdgmlakgnbmbbaaDoorW.PrintLast Go.Proofs.YtdgmlakgnbmbbaaDoorW.PrintMore
attribute [local go_sem] max2_int min2_int max_two min_two max_three min_three max_four min_four   -- for this text's walks alone
set_option linter.unusedVariables false
set_option linter.unusedSimpArgs false

/-! ### spec_ValueOk: function 9 -/
def spec_ValueOk.f (k : Nat) (l0 : List (List (S81))) (a1_0 : ByteArray) (a1_1 : Int) (l1_2 : List (S27)) (l1_3 : List Int) : Option (Bool):=(spec_KindsOk.f k l0).bind fun t221 => (if t221 = true then ((spec_l2Ok.f k l0 a1_0 a1_1 l1_2 l1_3).bind fun t222 => (some t222)) else (some false))
theorem spec_ValueOk.mono : ∀ a0 a1 a2 a3 a4 k,LeO (spec_ValueOk.f k a0 a1 a2 a3 a4) (spec_ValueOk.f (k + 1) a0 a1 a2 a3 a4):=by
 intro a0 a1 a2 a3 a4 k
 unfold spec_ValueOk.f
 repeat' first
   | (with_reducible exact spec_KindsOk.mono _ _)
   | (with_reducible exact spec_l2Ok.mono _ _ _ _ _ _)
   | (with_reducible exact LeO.refl _)
   | (with_reducible exact LeO.none _)
   | (with_reducible refine LeO.ite ?_ ?_)
   | (with_reducible refine LeO.bind ?_ (fun _ => ?_))
   | exact spec_KindsOk.mono _ _
   | exact spec_l2Ok.mono _ _ _ _ _ _
   | exact LeO.none _
   | refine LeO.ite ?_ ?_
   | refine LeO.bind ?_ (fun _ => ?_)
set_option maxHeartbeats 8000000 in
set_option maxRecDepth 100000 in
theorem spec_ValueOk.calls (k : Nat) (A0 : Option Addr) (c0 : Nat) (l0 : List (List (S81))) (a1_0 : ByteArray) (a1_1 : Int) (A1_2 : Option Addr) (c1_2 : Nat) (l1_2 : List (S27)) (A1_3 : Option Addr) (c1_3 : Nat) (l1_3 : List Int) (r : Bool) (w : World) (hr0 : Kd.C (Kd.slice 81 k81) w A0 l0.length l0) (hc0 : l0.length ≤ c0) (hr1_2 : Kd.C k27 w A1_2 l1_2.length l1_2) (hc1_2 : l1_2.length ≤ c1_2) (hr1_3 : Kd.C (Kd.int .i64) w A1_3 l1_3.length l1_3) (hc1_3 : l1_3.length ≤ c1_3) (h : spec_ValueOk.f k l0 a1_0 a1_1 l1_2 l1_3 = some r) :
  Calls Tryd.prog 9 #[.slice A0 l0.length c0,.agg #[.string a1_0,.int .i64 a1_1,.slice A1_2 l1_2.length c1_2,.slice A1_3 l1_3.length c1_3]] w fun e w' => e = .returned (.bool r) ∧ Below w.heap.size w w':=by
 have hu27:=Tryd.underlying27
 have HR0:=Aside0.mk hr0
 have HC0:=Aside0.mk hc0
 clear hr0 hc0
 have HR1_2:=Aside0.mk hr1_2
 have HC1_2:=Aside0.mk hc1_2
 clear hr1_2 hc1_2
 have HR1_3:=Aside0.mk hr1_3
 have HC1_3:=Aside0.mk hc1_3
 clear hr1_3 hc1_3
 have HB:=Aside0.mk (Below.refl w.heap.size w)
 have H : ((spec_KindsOk.f k l0).bind fun t221 => (if t221 = true then ((spec_l2Ok.f k l0 a1_0 a1_1 l1_2 l1_3).bind fun t222 => (some t222)) else (some false))) = some r:=h
 clear h
 replace H:=Option.bind_eq_some_iff.mp H
 obtain ⟨t221,A30,H⟩:=H
 replace H : (if t221 = true then ((spec_l2Ok.f k l0 a1_0 a1_1 l1_2 l1_3).bind fun t222 => (some t222)) else (some false)) = some r:=H
 have A3:=Aside0.mk A30
 clear A30
 by_cases c4 : t221 = true
 ·subst c4
  have H1 : ((spec_l2Ok.f k l0 a1_0 a1_1 l1_2 l1_3).bind fun t222 => (some t222)) = some r:=by rw [if_pos rfl] at H;exact H
  clear H
  have H:=H1
  clear H1
  replace H:=Option.bind_eq_some_iff.mp H
  obtain ⟨t222,A50,H⟩:=H
  replace H : (some t222) = some r:=H
  have A5:=Aside0.mk A50
  clear A50
  obtain rfl:=Option.some.inj H
  go_enter Tryd.func9,Tryd.ntmps9
  go_wp2_with (first | ((with_reducible refine gate_dst (N:=3) rfl ?_);refine Up.bx 3 27 #[.string a1_0,.int .i64 a1_1,.slice A1_2 l1_2.length c1_2,.slice A1_3 l1_3.length c1_3] ?_;intro gb220 hg w6 hbox hb;have n0_:=Up.BB HB hb;have n1_:=Aside0.mk (hbox);have n2_:=Up.gw hg HB;have n3_:=Up.gw hg HB;clear HB;have HB:=n0_;have BK220:=n1_;have GW220:=n2_;have GE220:=n3_;clear n0_ n1_ n2_ n3_ hb hbox hg) | ((with_reducible refine gate_callee (f:=30) rfl ?_);refine Up.gl (some 6) Tryd.func30 #[.slice A0 l0.length c0] ?_;(with_reducible refine (spec_KindsOk.calls k _ _ l0 true _ ?side1 ?side2 A3.out).mono ?_);(case side1 => exact Up.Cx HR0 HB);(case side2 => exact HC0.out);rintro e w7 ⟨rfl,hb⟩;refine ⟨_,rfl,?_⟩;have n0_:=Up.KB BK220 hb;have n1_:=Aside0.mk (below_step (Up.Bx HB) hb);clear BK220 HB;have BK220:=n0_;have HB:=n1_;clear n0_ n1_;(try clear hb);(try clear hb2);(try clear hk);(try clear hi);have hcz8_0:=Up.c0 BK220;have hcz8_1:=Up.c1 BK220;have hcz8_2:=Up.c2 BK220;have hcz8_3:=Up.c3 BK220;have hfz8_0:=blk_frozen BK220.out 0;have hfz8_1:=blk_frozen BK220.out 1;have hfz8_2:=blk_frozen BK220.out 2;have hfz8_3:=blk_frozen BK220.out 3) | (go_at_call 31;(with_reducible refine (spec_l2Ok.calls k _ _ l0 a1_0 a1_1 _ _ l1_2 _ _ l1_3 t222 _ ?side1 ?side2 ?side3 ?side4 ?side5 ?side6 A5.out).mono ?_);(case side1 => exact Up.Cx HR0 HB);(case side2 => exact HC0.out);(case side3 => exact Up.Cx HR1_2 HB);(case side4 => exact HC1_2.out);(case side5 => exact Up.Cx HR1_3 HB);(case side6 => exact HC1_3.out);rintro e w9 ⟨rfl,hb⟩;have n0_:=Up.KB BK220 hb;have n1_:=Aside0.mk (below_step (Up.Bx HB) hb);clear BK220 HB;have BK220:=n0_;have HB:=n1_;clear n0_ n1_;(try clear hb);(try clear hb2);(try clear hk);(try clear hi)))
  go_ret
  exact Up.e1 (Up.Bx HB)
 ·replace c4:=Bool.eq_false_iff.mpr c4
  subst c4
  have H1 : (some false) = some r:=by rw [if_neg (show ¬ (false = true) by decide)] at H;exact H
  clear H
  have H:=H1
  clear H1
  obtain rfl:=Option.some.inj H
  go_enter Tryd.func9,Tryd.ntmps9
  go_wp2_with (first | ((with_reducible refine gate_dst (N:=3) rfl ?_);refine Up.bx 3 27 #[.string a1_0,.int .i64 a1_1,.slice A1_2 l1_2.length c1_2,.slice A1_3 l1_3.length c1_3] ?_;intro gb220 hg w10 hbox hb;have n0_:=Up.BB HB hb;have n1_:=Aside0.mk (hbox);have n2_:=Up.gw hg HB;have n3_:=Up.gw hg HB;clear HB;have HB:=n0_;have BK220:=n1_;have GW220:=n2_;have GE220:=n3_;clear n0_ n1_ n2_ n3_ hb hbox hg) | ((with_reducible refine gate_callee (f:=30) rfl ?_);refine Up.gl (some 6) Tryd.func30 #[.slice A0 l0.length c0] ?_;(with_reducible refine (spec_KindsOk.calls k _ _ l0 false _ ?side1 ?side2 A3.out).mono ?_);(case side1 => exact Up.Cx HR0 HB);(case side2 => exact HC0.out);rintro e w11 ⟨rfl,hb⟩;refine ⟨_,rfl,?_⟩;have n0_:=Up.KB BK220 hb;have n1_:=Aside0.mk (below_step (Up.Bx HB) hb);clear BK220 HB;have BK220:=n0_;have HB:=n1_;clear n0_ n1_;(try clear hb);(try clear hb2);(try clear hk);(try clear hi)))
  go_ret
  exact Up.e1 (Up.Bx HB)

/-! ### spec_l6Dec: function 53 -/
def spec_l6Dec.f : Nat → Int → Option (ByteArray)
 | 0,_ => none
 | k + 1,a0 => if a0 < (-9223372036854775807) then (some (⟨#[45,57,50,50,51,51,55,50,48,51,54,56,53,52,55,55,53,56,48,56]⟩ : ByteArray)) else (if a0 < 0 then ((spec_l6Dec.f k (wrap64 (-a0))).bind fun t223 => (if 1 + t223.size ≤ 9223372036854775807 then (some ((⟨#[45]⟩ : ByteArray) ++ t223)) else (none))) else (if a0 < 10 then (some (strOfNums (([(wrap64 (48 + a0)) % 256] : List Int)))) else ((spec_l6Dec.f k (wrap64 (Int.tdiv a0 10))).bind fun t227 => ((some (([(wrap64 (48 + (Int.tmod a0 10))) % 256] : List Int) : List Int)).bind fun y228 => (if t227.size + (strOfNums y228).size ≤ 9223372036854775807 then (some (t227 ++ (strOfNums y228))) else (none))))))
theorem spec_l6Dec.mono_l : ∀ k,(∀ y0,LeO (spec_l6Dec.f k y0) (spec_l6Dec.f (k + 1) y0))
 | 0 => fun _ r h => by simp [spec_l6Dec.f] at h
 | k + 1 => by
  have ih0:=spec_l6Dec.mono_l k
  ·intro y0
   unfold spec_l6Dec.f
   repeat' first
   | (with_reducible exact ih0 _)
   | (with_reducible exact LeO.refl _)
   | (with_reducible exact LeO.none _)
   | (with_reducible refine LeO.ite ?_ ?_)
   | (with_reducible refine LeO.bind ?_ (fun _ => ?_))
   | exact ih0 _
   | exact LeO.none _
   | refine LeO.ite ?_ ?_
   | refine LeO.bind ?_ (fun _ => ?_)
theorem spec_l6Dec.mono : ∀ a0 k,LeO (spec_l6Dec.f k a0) (spec_l6Dec.f (k + 1) a0):=by
 intro a0 k
 have ih0:=spec_l6Dec.mono_l k
 exact ih0 a0
def spec_l6Dec.T7 : Bool × List (List Nat × List Nat):=(true,[([],[]),([0],[0]),([1],[1]),([],[]),([3],[3]),([4],[4]),([5],[5]),([6],[6]),([7],[7]),([2,8],[2,8]),([9,2,0,1,2,3,4,5,6,7,8,9],[9])])
def spec_l6Dec.B7 : List Nat:=[0,1,3,0,8,24,56,120,248,511,1023]
theorem spec_l6Dec.tab7 : rtab .any (opsOf Tryd.f53 7) = spec_l6Dec.T7:=by kernel_rfl
theorem spec_l6Dec.bits7 : waitsOk spec_l6Dec.T7.2 spec_l6Dec.B7 = true:=by kernel_rfl
set_option maxHeartbeats 8000000 in
set_option maxRecDepth 100000 in
theorem spec_l6Dec.calls (k : Nat) : ∀ (a0 : Int) (r : ByteArray) (w : World) (h : spec_l6Dec.f k a0 = some r),
  Calls Tryd.prog 53 #[.int .i64 a0] w fun e w' => e = .returned (.string r) ∧ Below w.heap.size w w':=by
 induction k using Nat.strongRecOn with
 | _ k ih =>
 intro a0 r w h
 cases k with
 | zero => exact absurd h (by simp [spec_l6Dec.f])
 | succ k =>
 simp only [spec_l6Dec.f] at h
 have HB:=Aside0.mk (Below.refl w.heap.size w)
 have H : (if a0 < (-9223372036854775807) then (some (⟨#[45,57,50,50,51,51,55,50,48,51,54,56,53,52,55,55,53,56,48,56]⟩ : ByteArray)) else (if a0 < 0 then ((spec_l6Dec.f k (wrap64 (-a0))).bind fun t223 => (if 1 + t223.size ≤ 9223372036854775807 then (some ((⟨#[45]⟩ : ByteArray) ++ t223)) else (none))) else (if a0 < 10 then (some (strOfNums (([(wrap64 (48 + a0)) % 256] : List Int)))) else ((spec_l6Dec.f k (wrap64 (Int.tdiv a0 10))).bind fun t227 => ((some (([(wrap64 (48 + (Int.tmod a0 10))) % 256] : List Int) : List Int)).bind fun y228 => (if t227.size + (strOfNums y228).size ≤ 9223372036854775807 then (some (t227 ++ (strOfNums y228))) else (none))))))) = some r:=h
 clear h
 by_cases c2 : a0 < (-9223372036854775807)
 ·rw [if_pos c2] at H
  have c2b0 : decide (a0 < (-9223372036854775807)) = true:=decide_eq_true c2
  clear c2
  obtain rfl:=Option.some.inj H
  go_enter Tryd.func53,Tryd.ntmps53
  go_wp2
  go_ret
  exact Up.e1 (Up.Bup HB)
 ·rw [if_neg c2] at H
  have c2b0 : decide (a0 < (-9223372036854775807)) = false:=decide_eq_false c2
  clear c2
  by_cases c3 : a0 < 0
  ·rw [if_pos c3] at H
   have c3b0 : decide (a0 < 0) = true:=decide_eq_true c3
   clear c3
   replace H:=Option.bind_eq_some_iff.mp H
   obtain ⟨t223,A40,H⟩:=H
   replace H : (if 1 + t223.size ≤ 9223372036854775807 then (some ((⟨#[45]⟩ : ByteArray) ++ t223)) else (none)) = some r:=H
   have A4:=Aside0.mk A40
   clear A40
   by_cases c5 : 1 + t223.size ≤ 9223372036854775807
   ·rw [if_pos c5] at H
    have c5b0:=eq_true c5
    have c5b1 : decide (1 + t223.size ≤ 9223372036854775807) = true:=decide_eq_true c5
    try have c5b2 : (9223372036854775807 < 1 + t223.size) = False:=eq_false (Nat.not_lt.2 c5)
    obtain rfl:=Option.some.inj H
    go_enter Tryd.func53,Tryd.ntmps53
    go_wp2_with (first | ((with_reducible refine gate_callee (f:=53) rfl ?_);refine Up.gl (some 9) Tryd.func53 #[.int .i64 (wrap64 (-a0))] ?_;(with_reducible refine (ih k (by omega) (wrap64 (-a0)) t223 _ A4.out).mono ?_);rintro e w6 ⟨rfl,hb⟩;refine ⟨_,rfl,?_⟩;have n0_:=Up.BB HB hb;clear HB;have HB:=n0_;clear n0_;(try clear hb);(try clear hb2);(try clear hk);(try clear hi)))
    go_ret
    exact Up.e1 (Up.Bup HB)
   ·rw [if_neg c5] at H
    exact absurd H (by simp)
  ·rw [if_neg c3] at H
   have c3b0 : decide (a0 < 0) = false:=decide_eq_false c3
   clear c3
   by_cases c7 : a0 < 10
   ·rw [if_pos c7] at H
    have c7b0 : decide (a0 < 10) = true:=decide_eq_true c7
    clear c7
    obtain ⟨y224,hy224⟩ : ∃ y_ : List Int,y_ = (([(wrap64 (48 + a0)) % 256] : List Int)):=⟨_,rfl⟩
    replace H : (some (strOfNums y224)) = some r:=by first | (rw [hy224];with_reducible exact H) | (have H2_:=(Option.bind_some _ _).symm.trans H;rw [hy224];with_reducible exact H2_) | (have H2_:=(Option.bind_some _ _).symm.trans H;with_reducible exact H2_) | with_reducible exact H | (rw [hy224];exact H) | exact H
    have Ny224:=Aside0.mk hy224
    clear hy224
    obtain rfl:=Option.some.inj H
    go_enter Tryd.func53,Tryd.ntmps53
    go_wp2_with (first | ((with_reducible refine gate_dst (N:=16) rfl ?_);refine Kd.R_lit (Kd.int .u8) _ 5 ?hg (N:=16) ?hd (xs:=([(wrap64 (48 + a0)) % 256] : List Int)) (inner:=[.int .u8 ((wrap64 (48 + a0)) % 256)]) (ok:=fun _ => True) (okp:=fun _ => True) ?hr ?hp (fun _ hk => hk) trivial (Below.refl _ _) (Nat.le_refl _) (by simp) ?_;(case hd => rfl);(case hg => rfl);(case hr => first | (go_simp;done) | (go_simp;rfl));(case hp => exact (Reps.one (show Kd.M (Kd.int .u8) _ _ _ ((wrap64 (48 + a0)) % 256) [.int .u8 ((wrap64 (48 + a0)) % 256)] from rfl) (Reps.none _ _)));intro v225 w8 ho9 hb hg_ hnew_;clear hg_ hnew_;(first | rw [← Ny224.out] at ho9 | (simp only [Int.reduceToNat] at ho9;rw [← Ny224.out] at ho9));have n0_:=Aside0.mk (Kd.R_lower ho9 (below_size (Up.Bup HB)));have n1_:=Up.BB HB hb;clear HB;have HO226:=n0_;have HB:=n1_;clear n0_ n1_ hb ho9;have hcv10:=own_string (P:=Tryd.prog) Tryd.underlying22 Tryd.underlying5 Tryd.underlying9 (Kd.own_of_R HO226.out)))
    go_ret
    exact Up.e1 (Up.Bup HB)
   ·rw [if_neg c7] at H
    have c7b0 : decide (a0 < 10) = false:=decide_eq_false c7
    clear c7
    replace H:=Option.bind_eq_some_iff.mp H
    obtain ⟨t227,A110,H⟩:=H
    replace H : ((some (([(wrap64 (48 + (Int.tmod a0 10))) % 256] : List Int) : List Int)).bind fun y228 => (if t227.size + (strOfNums y228).size ≤ 9223372036854775807 then (some (t227 ++ (strOfNums y228))) else (none))) = some r:=H
    have A11:=Aside0.mk A110
    clear A110
    obtain ⟨y228,hy228⟩ : ∃ y_ : List Int,y_ = (([(wrap64 (48 + (Int.tmod a0 10))) % 256] : List Int)):=⟨_,rfl⟩
    replace H : (if t227.size + (strOfNums y228).size ≤ 9223372036854775807 then (some (t227 ++ (strOfNums y228))) else (none)) = some r:=by first | (rw [hy228];with_reducible exact H) | (have H2_:=(Option.bind_some _ _).symm.trans H;rw [hy228];with_reducible exact H2_) | (have H2_:=(Option.bind_some _ _).symm.trans H;with_reducible exact H2_) | with_reducible exact H | (rw [hy228];exact H) | exact H
    have Ny228:=Aside0.mk hy228
    clear hy228
    by_cases c12 : t227.size + (strOfNums y228).size ≤ 9223372036854775807
    ·rw [if_pos c12] at H
     have c12b0:=eq_true c12
     have c12b1 : decide (t227.size + (strOfNums y228).size ≤ 9223372036854775807) = true:=decide_eq_true c12
     try have c12b2 : (9223372036854775807 < t227.size + (strOfNums y228).size) = False:=eq_false (Nat.not_lt.2 c12)
     obtain rfl:=Option.some.inj H
     go_enter Tryd.func53,Tryd.ntmps53
     try go_wp2
     have n0_:=Aside0.mk (below_drew1 HB.out)
     clear HB
     have HB:=n0_
     clear n0_
     refine start_ (n:=11) (S:=fun w' => True) (ds:=[]) #[false,false,false,false,false,false,false,false,false,false,false] (by kernel_rfl) rfl rfl trivial (fun hHeld => ?_);refine with_tabW spec_l6Dec.tab7 spec_l6Dec.bits7 (fun HT_ HW_ => ?_)
     generalize w.drew = w13 at HB hHeld ⊢
     refine Up.pu 0 (some 18) HT_ ?_
     refine Up.pu 1 (some 19) HT_ ?_
     refine Up.pu 3 (some 21) HT_ ?_
     refine Up.pu 4 (some 22) HT_ ?_
     refine Up.pu 5 (some 23) HT_ ?_
     refine Up.pu 6 (some 24) HT_ ?_
     refine join_ (σ:=Value) 2 #[true,true,true,true,true,true,true,true,true,false,false] (fun s_ => [(20,.string t227),(25,s_),(26,.string (strOfNums y228))]) (fun s_ w' => (Kd.R (Kd.int .u8) 5 w' w.heap.size (fun _ => True) s_ y228) ∧ (Below w.heap.size w w')) ?_ ?_
     rotate_left
     ·intro hCont
      refine two_ (i:=2) (j:=7) (Ni:=some 20) (Nj:=some 25) #[true,true,true,true,true,true,true,false,false,false,false] #[true,true,false,true,true,true,true,true,false,false,false] rfl rfl rfl rfl (two_of HT_.out (by kernel_rfl)) (by decide) (by decide) (fun K hK => ?_) (fun K hK => ?_)
      ·skip
       refine Up.go Tryd.func53 #[.int .i64 (wrap64 (Int.tdiv a0 10))] ?_
       with_reducible refine (ih k (by omega) (wrap64 (Int.tdiv a0 10)) t227 _ A11.out).mono ?_
       rintro e w14 ⟨rfl,hb⟩
       refine ⟨_,rfl,?_⟩
       have n0_:=Up.BB HB hb
       clear HB
       have HB:=n0_
       clear n0_
       (try clear hb)
       (try clear hb2)
       (try clear hk)
       (try clear hi)
       refine hK.out _ _ trivial (fun hHeld => ?_)
       clear hK K
       refine Up.nm 20 ?_
       refine Up.on 7 (some 25) HT_ (fun K hK => ?_)
       refine Kd.R_lit_step (Kd.int .u8) _ 5 ?hg (N:=25) ?hd (xs:=([(wrap64 (48 + (Int.tmod a0 10))) % 256] : List Int)) (inner:=[.int .u8 ((wrap64 (48 + (Int.tmod a0 10))) % 256)]) (ok:=fun _ => True) (okp:=fun _ => True) ?hr ?hp (fun _ hk => hk) trivial (Below.refl _ _) (Nat.le_refl _) (by simp) ?_;(case hd => rfl);(case hg => rfl);(case hr => first | (go_simp;done) | (go_simp;rfl));(case hp => exact (Reps.one (show Kd.M (Kd.int .u8) _ _ _ ((wrap64 (48 + (Int.tmod a0 10))) % 256) [.int .u8 ((wrap64 (48 + (Int.tmod a0 10))) % 256)] from rfl) (Reps.none _ _)))
       intro v229 w15 ho16 hb hg_ hnew_
       clear hg_ hnew_
       (first | rw [← Ny228.out] at ho16 | (simp only [Int.reduceToNat] at ho16;rw [← Ny228.out] at ho16))
       have n0_:=Aside0.mk (Kd.R_lower ho16 (below_size (Up.Bup HB)))
       have n1_:=Up.BB HB hb
       clear HB
       have HO230:=n0_
       have HB:=n1_
       clear n0_ n1_
       clear hb ho16
       refine hK.out _ _ trivial (fun hHeld => ?_)
       clear hK K
       refine Up.nm 25 ?_
       refine Up.on 8 (some 26) HT_ (fun K hK => ?_)
       have hcv17:=own_string (P:=Tryd.prog) Tryd.underlying22 Tryd.underlying5 Tryd.underlying9 (Kd.own_of_R HO230.out)
       refine value_ (w1:=?_) (v:=?_) (by rfl) rfl ?_ ?_
       rotate_left 2
       ·go_simp
        constructor
        ·rfl
        ·rfl
       clear hcv17
       refine hK.out _ _ trivial (fun hHeld => ?_)
       clear hK K
       refine Up.nm 26 ?_
       exact norm_ (by simp only [putAll,Act.put,List.setIfInBounds_toArray,List.set_cons_zero,List.set_cons_succ]) (hCont (v229) _ ⟨(Up.Rup HO230),(Up.Bup HB)⟩)
      ·skip
       refine Kd.R_lit_step (Kd.int .u8) _ 5 ?hg (N:=25) ?hd (xs:=([(wrap64 (48 + (Int.tmod a0 10))) % 256] : List Int)) (inner:=[.int .u8 ((wrap64 (48 + (Int.tmod a0 10))) % 256)]) (ok:=fun _ => True) (okp:=fun _ => True) ?hr ?hp (fun _ hk => hk) trivial (Below.refl _ _) (Nat.le_refl _) (by simp) ?_;(case hd => rfl);(case hg => rfl);(case hr => first | (go_simp;done) | (go_simp;rfl));(case hp => exact (Reps.one (show Kd.M (Kd.int .u8) _ _ _ ((wrap64 (48 + (Int.tmod a0 10))) % 256) [.int .u8 ((wrap64 (48 + (Int.tmod a0 10))) % 256)] from rfl) (Reps.none _ _)))
       intro v229 w14 ho15 hb hg_ hnew_
       clear hg_ hnew_
       (first | rw [← Ny228.out] at ho15 | (simp only [Int.reduceToNat] at ho15;rw [← Ny228.out] at ho15))
       have n0_:=Aside0.mk (Kd.R_lower ho15 (below_size (Up.Bup HB)))
       have n1_:=Up.BB HB hb
       clear HB
       have HO230:=n0_
       have HB:=n1_
       clear n0_ n1_
       clear hb ho15
       refine hK.out _ _ trivial (fun hHeld => ?_)
       clear hK K
       refine Up.nm 25 ?_
       refine two_ (i:=2) (j:=8) (Ni:=some 20) (Nj:=some 26) #[true,true,true,true,true,true,true,true,false,false,false] #[true,true,false,true,true,true,true,true,true,false,false] rfl rfl rfl rfl (two_of HT_.out (by kernel_rfl)) (by decide) (by decide) (fun K hK => ?_) (fun K hK => ?_)
       ·skip
        refine Up.go Tryd.func53 #[.int .i64 (wrap64 (Int.tdiv a0 10))] ?_
        with_reducible refine (ih k (by omega) (wrap64 (Int.tdiv a0 10)) t227 _ A11.out).mono ?_
        rintro e w16 ⟨rfl,hb⟩
        refine ⟨_,rfl,?_⟩
        have n0_:=Up.RB HO230 hb
        have n1_:=Up.BB HB hb
        clear HO230
        clear HB
        have HO230:=n0_
        have HB:=n1_
        clear n0_ n1_
        (try clear hb)
        (try clear hb2)
        (try clear hk)
        (try clear hi)
        refine hK.out _ _ trivial (fun hHeld => ?_)
        clear hK K
        refine Up.nm 20 ?_
        refine Up.on 8 (some 26) HT_ (fun K hK => ?_)
        have hcv17:=own_string (P:=Tryd.prog) Tryd.underlying22 Tryd.underlying5 Tryd.underlying9 (Kd.own_of_R HO230.out)
        refine value_ (w1:=?_) (v:=?_) (by rfl) rfl ?_ ?_
        rotate_left 2
        ·go_simp
         constructor
         ·rfl
         ·rfl
        clear hcv17
        refine hK.out _ _ trivial (fun hHeld => ?_)
        clear hK K
        refine Up.nm 26 ?_
        exact norm_ (by simp only [putAll,Act.put,List.setIfInBounds_toArray,List.set_cons_zero,List.set_cons_succ]) (hCont (v229) _ ⟨(Up.Rup HO230),(Up.Bup HB)⟩)
       ·skip
        have hcv16:=own_string (P:=Tryd.prog) Tryd.underlying22 Tryd.underlying5 Tryd.underlying9 (Kd.own_of_R HO230.out)
        refine value_ (w1:=?_) (v:=?_) (by rfl) rfl ?_ ?_
        rotate_left 2
        ·go_simp
         constructor
         ·rfl
         ·rfl
        clear hcv16
        refine hK.out _ _ trivial (fun hHeld => ?_)
        clear hK K
        refine Up.nm 26 ?_
        refine Up.on 2 (some 20) HT_ (fun K hK => ?_)
        refine Up.go Tryd.func53 #[.int .i64 (wrap64 (Int.tdiv a0 10))] ?_
        with_reducible refine (ih k (by omega) (wrap64 (Int.tdiv a0 10)) t227 _ A11.out).mono ?_
        rintro e w17 ⟨rfl,hb⟩
        refine ⟨_,rfl,?_⟩
        have n0_:=Up.RB HO230 hb
        have n1_:=Up.BB HB hb
        clear HO230
        clear HB
        have HO230:=n0_
        have HB:=n1_
        clear n0_ n1_
        (try clear hb)
        (try clear hb2)
        (try clear hk)
        (try clear hi)
        refine hK.out _ _ trivial (fun hHeld => ?_)
        clear hK K
        refine Up.nm 20 ?_
        exact norm_ (by simp only [putAll,Act.put,List.setIfInBounds_toArray,List.set_cons_zero,List.set_cons_succ]) (hCont (v229) _ ⟨(Up.Rup HO230),(Up.Bup HB)⟩)
     rintro v229 w18 ⟨h0_,h1_⟩
     have n0_ : Aside0 (Kd.R (Kd.int .u8) 5 w18 w.heap.size (fun _ => True) v229 y228):=⟨h0_⟩
     have n1_ : Aside0 (Below w.heap.size w w18):=⟨h1_⟩
     clear HB
     clear h0_ h1_
     have HO230:=n0_
     have HB:=n1_
     clear n0_ n1_
     have hHeld:=trivial
     refine norm_ (a':=?_) ?_ ?_
     rotate_left
     ·simp only [putAll,Act.put,List.setIfInBounds_toArray,List.set_cons_zero,List.set_cons_succ]
      rfl
     refine Up.pu 9 (some 27) HT_ ?_
     refine Up.pu 10 (some 2) HT_ ?_
     refine done_ (done_of HT_.out (by kernel_rfl)) ?_
     try go_wp2
     go_ret
     exact Up.e1 (Up.Bup HB)
    ·rw [if_neg c12] at H
     exact absurd H (by simp)

/-! ### spec_l2Text: function 33 -/
mutual
def spec_l2Text.l0 : Nat → ByteArray → Int → ByteArray → Int → List (S27) → List Int → Option (ByteArray)
 | 0,_,_,_,_,_,_ => none
 | k + 1,x3,x4,x232000,x232001,x232002,x232003 => if x4 < (x232002.length : Int) then (if x4 > 0 then (if x3.size + 1 ≤ 9223372036854775807 then (if 0 ≤ x4 then ((spec_l2Text.f k ((rd_T27 x232002 x4).f0) ((rd_T27 x232002 x4).f1) ((rd_T27 x232002 x4).f2) ((rd_T27 x232002 x4).f3)).bind fun t239 => (if (x3 ++ (⟨#[32]⟩ : ByteArray)).size + t239.size ≤ 9223372036854775807 then (spec_l2Text.l0 k ((x3 ++ (⟨#[32]⟩ : ByteArray)) ++ t239) (wrap64 (x4 + 1)) x232000 x232001 x232002 x232003) else (none))) else (none)) else (none)) else (if 0 ≤ x4 then ((spec_l2Text.f k ((rd_T27 x232002 x4).f0) ((rd_T27 x232002 x4).f1) ((rd_T27 x232002 x4).f2) ((rd_T27 x232002 x4).f3)).bind fun t241 => (if x3.size + t241.size ≤ 9223372036854775807 then (spec_l2Text.l0 k (x3 ++ t241) (wrap64 (x4 + 1)) x232000 x232001 x232002 x232003) else (none))) else (none))) else (if x3.size + 1 ≤ 9223372036854775807 then (some (x3 ++ (⟨#[41]⟩ : ByteArray))) else (none))
def spec_l2Text.f : Nat → ByteArray → Int → List (S27) → List Int → Option (ByteArray)
 | 0,_,_,_,_ => none
 | k + 1,a0_0,a0_1,l0_2,l0_3 => if a0_0.toList = ([110] : List UInt8) then ((spec_l6Dec.f k a0_1).bind fun t232 => (some t232)) else (if a0_0.toList = ([98] : List UInt8) then ((some (([(⟨#[45]⟩ : ByteArray),(⟨#[43]⟩ : ByteArray)] : List ByteArray) : List ByteArray)).bind fun y233 => (if 0 ≤ a0_1 then (if a0_1 < (y233.length : Int) then (some (rdOf ByteArray.empty y233 a0_1)) else (none)) else (none))) else (if a0_0.toList = ([111] : List UInt8) then ((spec_l6Dec.f k a0_1).bind fun t237 => (if 1 + t237.size ≤ 9223372036854775807 then (some ((⟨#[64]⟩ : ByteArray) ++ t237)) else (none))) else (if a0_0.size + 1 ≤ 9223372036854775807 then (spec_l2Text.l0 k (a0_0 ++ (⟨#[40]⟩ : ByteArray)) 0 a0_0 a0_1 l0_2 l0_3) else (none))))
end
theorem spec_l2Text.mono_l : ∀ k,(∀ y0 y1 y2 y3,LeO (spec_l2Text.f k y0 y1 y2 y3) (spec_l2Text.f (k + 1) y0 y1 y2 y3)) ∧ (∀ y0 y1 y2 y3 y4 y5,LeO (spec_l2Text.l0 k y0 y1 y2 y3 y4 y5) (spec_l2Text.l0 (k + 1) y0 y1 y2 y3 y4 y5))
 | 0 => ⟨fun _ _ _ _ r h => by simp [spec_l2Text.f] at h,fun _ _ _ _ _ _ r h => by simp [spec_l2Text.l0] at h⟩
 | k + 1 => by
  obtain ⟨ih0,ih1⟩:=spec_l2Text.mono_l k
  refine ⟨?_,?_⟩
  ·intro y0 y1 y2 y3
   unfold spec_l2Text.f
   repeat' first
   | (with_reducible exact ih0 _ _ _ _)
   | (with_reducible exact ih1 _ _ _ _ _ _)
   | (with_reducible exact spec_l6Dec.mono _ _)
   | (with_reducible exact LeO.refl _)
   | (with_reducible exact LeO.none _)
   | (with_reducible refine LeO.ite ?_ ?_)
   | (with_reducible refine LeO.bind ?_ (fun _ => ?_))
   | exact ih0 _ _ _ _
   | exact ih1 _ _ _ _ _ _
   | exact spec_l6Dec.mono _ _
   | exact LeO.none _
   | refine LeO.ite ?_ ?_
   | refine LeO.bind ?_ (fun _ => ?_)
  ·intro y0 y1 y2 y3 y4 y5
   unfold spec_l2Text.l0
   repeat' first
   | (with_reducible exact ih0 _ _ _ _)
   | (with_reducible exact ih1 _ _ _ _ _ _)
   | (with_reducible exact spec_l6Dec.mono _ _)
   | (with_reducible exact LeO.refl _)
   | (with_reducible exact LeO.none _)
   | (with_reducible refine LeO.ite ?_ ?_)
   | (with_reducible refine LeO.bind ?_ (fun _ => ?_))
   | exact ih0 _ _ _ _
   | exact ih1 _ _ _ _ _ _
   | exact spec_l6Dec.mono _ _
   | exact LeO.none _
   | refine LeO.ite ?_ ?_
   | refine LeO.bind ?_ (fun _ => ?_)
theorem spec_l2Text.mono : ∀ a0 a1 a2 a3 k,LeO (spec_l2Text.f k a0 a1 a2 a3) (spec_l2Text.f (k + 1) a0 a1 a2 a3):=by
 intro a0 a1 a2 a3 k
 obtain ⟨ih0,ih1⟩:=spec_l2Text.mono_l k
 exact ih0 a0 a1 a2 a3
set_option maxHeartbeats 8000000 in
set_option maxRecDepth 100000 in
theorem spec_l2Text.calls (k : Nat) : ∀ (a0_0 : ByteArray) (a0_1 : Int) (A0_2 : Option Addr) (c0_2 : Nat) (l0_2 : List (S27)) (A0_3 : Option Addr) (c0_3 : Nat) (l0_3 : List Int) (r : ByteArray) (w : World) (hr0_2 : Kd.C k27 w A0_2 l0_2.length l0_2) (hc0_2 : l0_2.length ≤ c0_2) (hr0_3 : Kd.C (Kd.int .i64) w A0_3 l0_3.length l0_3) (hc0_3 : l0_3.length ≤ c0_3) (h : spec_l2Text.f k a0_0 a0_1 l0_2 l0_3 = some r),
  Calls Tryd.prog 33 #[.agg #[.string a0_0,.int .i64 a0_1,.slice A0_2 l0_2.length c0_2,.slice A0_3 l0_3.length c0_3]] w fun e w' => e = .returned (.string r) ∧ Below w.heap.size w w':=by
 induction k using Nat.strongRecOn with
 | _ k ih =>
 intro a0_0 a0_1 A0_2 c0_2 l0_2 A0_3 c0_3 l0_3 r w hr0_2 hc0_2 hr0_3 hc0_3 h
 cases k with
 | zero => exact absurd h (by simp [spec_l2Text.f])
 | succ k =>
 simp only [spec_l2Text.f] at h
 have hu27:=Tryd.underlying27
 have HR0_2:=Aside0.mk hr0_2
 have HC0_2:=Aside0.mk hc0_2
 clear hr0_2 hc0_2
 have HR0_3:=Aside0.mk hr0_3
 have HC0_3:=Aside0.mk hc0_3
 clear hr0_3 hc0_3
 have HB:=Aside0.mk (Below.refl w.heap.size w)
 have H : (if a0_0.toList = ([110] : List UInt8) then ((spec_l6Dec.f k a0_1).bind fun t232 => (some t232)) else (if a0_0.toList = ([98] : List UInt8) then ((some (([(⟨#[45]⟩ : ByteArray),(⟨#[43]⟩ : ByteArray)] : List ByteArray) : List ByteArray)).bind fun y233 => (if 0 ≤ a0_1 then (if a0_1 < (y233.length : Int) then (some (rdOf ByteArray.empty y233 a0_1)) else (none)) else (none))) else (if a0_0.toList = ([111] : List UInt8) then ((spec_l6Dec.f k a0_1).bind fun t237 => (if 1 + t237.size ≤ 9223372036854775807 then (some ((⟨#[64]⟩ : ByteArray) ++ t237)) else (none))) else (if a0_0.size + 1 ≤ 9223372036854775807 then (spec_l2Text.l0 k (a0_0 ++ (⟨#[40]⟩ : ByteArray)) 0 a0_0 a0_1 l0_2 l0_3) else (none))))) = some r:=h
 clear h
 by_cases c2 : a0_0.toList = ([110] : List UInt8)
 ·rw [if_pos c2] at H
  have c2b0 : (a0_0.toList == ([110] : List UInt8)) = true:=beq_iff_eq.mpr c2
  have c2b1 : (a0_0.toList != ([110] : List UInt8)) = false:=bne_eq_false_iff_eq.mpr c2
  clear c2
  replace H:=Option.bind_eq_some_iff.mp H
  obtain ⟨t232,A30,H⟩:=H
  replace H : (some t232) = some r:=H
  have A3:=Aside0.mk A30
  clear A30
  obtain rfl:=Option.some.inj H
  go_enter Tryd.func33,Tryd.ntmps33
  go_wp2_with (first | ((with_reducible refine gate_dst (N:=1) rfl ?_);refine Up.bx 1 27 #[.string a0_0,.int .i64 a0_1,.slice A0_2 l0_2.length c0_2,.slice A0_3 l0_3.length c0_3] ?_;intro gb231 hg w4 hbox hb;have n0_:=Up.BB HB hb;have n1_:=Aside0.mk (hbox);have n2_:=Up.gw hg HB;have n3_:=Up.gw hg HB;clear HB;have HB:=n0_;have BK231:=n1_;have GW231:=n2_;have GE231:=n3_;clear n0_ n1_ n2_ n3_ hb hbox hg;have hcz5_0:=Up.c0 BK231;have hcz5_1:=Up.c1 BK231;have hcz5_2:=Up.c2 BK231;have hcz5_3:=Up.c3 BK231;have hfz5_0:=blk_frozen BK231.out 0;have hfz5_1:=blk_frozen BK231.out 1;have hfz5_2:=blk_frozen BK231.out 2;have hfz5_3:=blk_frozen BK231.out 3) | ((with_reducible refine gate_callee (f:=53) rfl ?_);refine Up.gl (some 10) Tryd.func53 #[.int .i64 a0_1] ?_;(with_reducible refine (spec_l6Dec.calls k a0_1 t232 _ A3.out).mono ?_);rintro e w6 ⟨rfl,hb⟩;refine ⟨_,rfl,?_⟩;have n0_:=Up.KB BK231 hb;have n1_:=Aside0.mk (below_step (Up.Bx HB) hb);clear BK231 HB;have BK231:=n0_;have HB:=n1_;clear n0_ n1_;(try clear hb);(try clear hb2);(try clear hk);(try clear hi)))
  go_ret
  exact Up.e1 (Up.Bx HB)
 ·rw [if_neg c2] at H
  have c2b0 : (a0_0.toList == ([110] : List UInt8)) = false:=beq_eq_false_iff_ne.mpr c2
  have c2b1 : (a0_0.toList != ([110] : List UInt8)) = true:=bne_iff_ne.mpr c2
  by_cases c7 : a0_0.toList = ([98] : List UInt8)
  ·rw [if_pos c7] at H
   have c7b0 : (a0_0.toList == ([98] : List UInt8)) = true:=beq_iff_eq.mpr c7
   have c7b1 : (a0_0.toList != ([98] : List UInt8)) = false:=bne_eq_false_iff_eq.mpr c7
   clear c7
   obtain ⟨y233,hy233⟩ : ∃ y_ : List ByteArray,y_ = (([(⟨#[45]⟩ : ByteArray),(⟨#[43]⟩ : ByteArray)] : List ByteArray)):=⟨_,rfl⟩
   replace H : (if 0 ≤ a0_1 then (if a0_1 < (y233.length : Int) then (some (rdOf ByteArray.empty y233 a0_1)) else (none)) else (none)) = some r:=by first | (rw [hy233];with_reducible exact H) | (have H2_:=(Option.bind_some _ _).symm.trans H;rw [hy233];with_reducible exact H2_) | (have H2_:=(Option.bind_some _ _).symm.trans H;with_reducible exact H2_) | with_reducible exact H | (rw [hy233];exact H) | exact H
   have Ny233:=Aside0.mk hy233
   clear hy233
   by_cases c8 : 0 ≤ a0_1
   ·rw [if_pos c8] at H
    have c8b0 : decide (0 ≤ a0_1) = true:=decide_eq_true c8
    clear c8
    by_cases c9 : a0_1 < (y233.length : Int)
    ·rw [if_pos c9] at H
     have c9b0 : decide (a0_1 < (y233.length : Int)) = true:=decide_eq_true c9
     clear c9
     obtain rfl:=Option.some.inj H
     go_enter Tryd.func33,Tryd.ntmps33
     go_wp2_with (first | ((with_reducible refine gate_dst (N:=1) rfl ?_);refine Up.bx 1 27 #[.string a0_0,.int .i64 a0_1,.slice A0_2 l0_2.length c0_2,.slice A0_3 l0_3.length c0_3] ?_;intro gb231 hg w10 hbox hb;have n0_:=Up.BB HB hb;have n1_:=Aside0.mk (hbox);have n2_:=Up.gw hg HB;have n3_:=Up.gw hg HB;clear HB;have HB:=n0_;have BK231:=n1_;have GW231:=n2_;have GE231:=n3_;clear n0_ n1_ n2_ n3_ hb hbox hg;have hcz11_0:=Up.c0 BK231;have hcz11_1:=Up.c1 BK231;have hcz11_2:=Up.c2 BK231;have hcz11_3:=Up.c3 BK231;have hfz11_0:=blk_frozen BK231.out 0;have hfz11_1:=blk_frozen BK231.out 1;have hfz11_2:=blk_frozen BK231.out 2;have hfz11_3:=blk_frozen BK231.out 3) | ((with_reducible refine gate_dst (N:=14) rfl ?_);refine Kd.R_lit Kd.string _ 9 ?hg (N:=14) ?hd (xs:=([(⟨#[45]⟩ : ByteArray),(⟨#[43]⟩ : ByteArray)] : List ByteArray)) (inner:=[.string (⟨#[45]⟩ : ByteArray),.string (⟨#[43]⟩ : ByteArray)]) (ok:=fun _ => True) (okp:=fun _ => True) ?hr ?hp (fun _ hk => hk) trivial (Below.refl _ _) (Nat.le_refl _) (by simp) ?_;(case hd => rfl);(case hg => rfl);(case hr => first | (go_simp;done) | (go_simp;rfl));(case hp => exact (Reps.one (show Kd.M Kd.string _ _ _ (⟨#[45]⟩ : ByteArray) [.string (⟨#[45]⟩ : ByteArray)] from rfl) (Reps.one (show Kd.M Kd.string _ _ _ (⟨#[43]⟩ : ByteArray) [.string (⟨#[43]⟩ : ByteArray)] from rfl) (Reps.none _ _))));intro v234 w12 ho13 hb hg_ hnew_;clear hg_ hnew_;(first | rw [← Ny233.out] at ho13 | (simp only [Int.reduceToNat] at ho13;rw [← Ny233.out] at ho13));have n0_:=Aside0.mk (Kd.R_lower ho13 (below_size (Up.Bx HB)));have n1_:=Up.KB BK231 hb;have n2_:=Aside0.mk (below_step (Up.Bx HB) hb);clear BK231 HB;have HO235:=n0_;have BK231:=n1_;have HB:=n2_;clear n0_ n1_ n2_ hb ho13;have hcz14_0:=Up.c0 BK231;have hcz14_1:=Up.c1 BK231;have hcz14_2:=Up.c2 BK231;have hcz14_3:=Up.c3 BK231;have hfz14_0:=blk_frozen BK231.out 0;have hfz14_1:=blk_frozen BK231.out 1;have hfz14_2:=blk_frozen BK231.out 2;have hfz14_3:=blk_frozen BK231.out 3;obtain ⟨Ao15,co15,eo15⟩:=Kd.R_slice HO235.out;subst eo15;have p236 : 0 ≤ (a0_1 : Int):=Up.od;have q236 : a0_1 < (y233.length : Int):=Up.od;obtain ⟨ad236,e236,hx236_0⟩:=Kd.at_string (Kd.R_reads' HO235.out).2.2 a0_1 p236 q236;cases e236;replace p236:=eq_true p236;replace q236:=eq_true q236))
     go_ret
     exact Up.e1 (Up.Bx HB)
    ·rw [if_neg c9] at H
     exact absurd H (by simp)
   ·rw [if_neg c8] at H
    exact absurd H (by simp)
  ·rw [if_neg c7] at H
   have c7b0 : (a0_0.toList == ([98] : List UInt8)) = false:=beq_eq_false_iff_ne.mpr c7
   have c7b1 : (a0_0.toList != ([98] : List UInt8)) = true:=bne_iff_ne.mpr c7
   by_cases c16 : a0_0.toList = ([111] : List UInt8)
   ·rw [if_pos c16] at H
    have c16b0 : (a0_0.toList == ([111] : List UInt8)) = true:=beq_iff_eq.mpr c16
    have c16b1 : (a0_0.toList != ([111] : List UInt8)) = false:=bne_eq_false_iff_eq.mpr c16
    clear c16
    replace H:=Option.bind_eq_some_iff.mp H
    obtain ⟨t237,A170,H⟩:=H
    replace H : (if 1 + t237.size ≤ 9223372036854775807 then (some ((⟨#[64]⟩ : ByteArray) ++ t237)) else (none)) = some r:=H
    have A17:=Aside0.mk A170
    clear A170
    by_cases c18 : 1 + t237.size ≤ 9223372036854775807
    ·rw [if_pos c18] at H
     have c18b0:=eq_true c18
     have c18b1 : decide (1 + t237.size ≤ 9223372036854775807) = true:=decide_eq_true c18
     try have c18b2 : (9223372036854775807 < 1 + t237.size) = False:=eq_false (Nat.not_lt.2 c18)
     obtain rfl:=Option.some.inj H
     go_enter Tryd.func33,Tryd.ntmps33
     go_wp2_with (first | ((with_reducible refine gate_dst (N:=1) rfl ?_);refine Up.bx 1 27 #[.string a0_0,.int .i64 a0_1,.slice A0_2 l0_2.length c0_2,.slice A0_3 l0_3.length c0_3] ?_;intro gb231 hg w19 hbox hb;have n0_:=Up.BB HB hb;have n1_:=Aside0.mk (hbox);have n2_:=Up.gw hg HB;have n3_:=Up.gw hg HB;clear HB;have HB:=n0_;have BK231:=n1_;have GW231:=n2_;have GE231:=n3_;clear n0_ n1_ n2_ n3_ hb hbox hg;have hcz20_0:=Up.c0 BK231;have hcz20_1:=Up.c1 BK231;have hcz20_2:=Up.c2 BK231;have hcz20_3:=Up.c3 BK231;have hfz20_0:=blk_frozen BK231.out 0;have hfz20_1:=blk_frozen BK231.out 1;have hfz20_2:=blk_frozen BK231.out 2;have hfz20_3:=blk_frozen BK231.out 3) | ((with_reducible refine gate_callee (f:=53) rfl ?_);refine Up.gl (some 24) Tryd.func53 #[.int .i64 a0_1] ?_;(with_reducible refine (spec_l6Dec.calls k a0_1 t237 _ A17.out).mono ?_);rintro e w21 ⟨rfl,hb⟩;refine ⟨_,rfl,?_⟩;have n0_:=Up.KB BK231 hb;have n1_:=Aside0.mk (below_step (Up.Bx HB) hb);clear BK231 HB;have BK231:=n0_;have HB:=n1_;clear n0_ n1_;(try clear hb);(try clear hb2);(try clear hk);(try clear hi)))
     go_ret
     exact Up.e1 (Up.Bx HB)
    ·rw [if_neg c18] at H
     exact absurd H (by simp)
   ·rw [if_neg c16] at H
    have c16b0 : (a0_0.toList == ([111] : List UInt8)) = false:=beq_eq_false_iff_ne.mpr c16
    have c16b1 : (a0_0.toList != ([111] : List UInt8)) = true:=bne_iff_ne.mpr c16
    by_cases c22 : a0_0.size + 1 ≤ 9223372036854775807
    ·rw [if_pos c22] at H
     have c22b0:=eq_true c22
     have c22b1 : decide (a0_0.size + 1 ≤ 9223372036854775807) = true:=decide_eq_true c22
     try have c22b2 : (9223372036854775807 < a0_0.size + 1) = False:=eq_false (Nat.not_lt.2 c22)
     have H':=Aside0.mk H
     clear H
     go_enter Tryd.func33,Tryd.ntmps33
     go_wp2_with (first | ((with_reducible refine gate_dst (N:=1) rfl ?_);refine Up.bx 1 27 #[.string a0_0,.int .i64 a0_1,.slice A0_2 l0_2.length c0_2,.slice A0_3 l0_3.length c0_3] ?_;intro gb231 hg w23 hbox hb;have n0_:=Up.BB HB hb;have n1_:=Aside0.mk (hbox);have n2_:=Up.gw hg HB;have n3_:=Up.gw hg HB;clear HB;have HB:=n0_;have BK231:=n1_;have GW231:=n2_;have GE231:=n3_;clear n0_ n1_ n2_ n3_ hb hbox hg;have hcz24_0:=Up.c0 BK231;have hcz24_1:=Up.c1 BK231;have hcz24_2:=Up.c2 BK231;have hcz24_3:=Up.c3 BK231;have hfz24_0:=blk_frozen BK231.out 0;have hfz24_1:=blk_frozen BK231.out 1;have hfz24_2:=blk_frozen BK231.out 2;have hfz24_3:=blk_frozen BK231.out 3))
     go_loopg [3,4] k (fun kq v3 v4 w' => ∃ (x3_1 : ByteArray) (x4_1 : Int),v3 = .string x3_1 ∧ v4 = .int .i64 x4_1 ∧ Aside0 (spec_l2Text.l0 kq x3_1 x4_1 a0_0 a0_1 l0_2 l0_3 = some r) ∧ Aside0 (kq ≤ k) ∧ Aside0 (w'.heap[gb231]? = some (.cells #[.string a0_0,.int .i64 a0_1,(.slice A0_2 l0_2.length c0_2),(.slice A0_3 l0_3.length c0_3)] 27 (0,0))) ∧ Aside0 (Below w.heap.size w w'))
     case atStart => exact ⟨(a0_0 ++ (⟨#[40]⟩ : ByteArray)),(0),(by first | rfl | (simp;done) | (simp [*];done)),(by first | rfl | (simp;done) | (simp [*];done)),H',⟨Nat.le_refl _⟩,⟨by (with_reducible repeat (first | refine blk_drewN ?_ _ | refine blk_drew ?_ | refine blk_alloc ?_ _));exact BK231.out⟩,⟨Up.Bx HB⟩⟩
     case round =>
      clear H'
      try clear c1
      try clear c2
      try clear c2b0
      try clear c2b1
      try clear p2
      try clear q2
      try clear hx2
      try clear c3
      try clear c5
      try clear c7
      try clear c7b0
      try clear c7b1
      try clear c8
      try clear c8b0
      try clear c9
      try clear c9b0
      try clear c16
      try clear c16b0
      try clear c16b1
      try clear c18
      try clear c18b0
      try clear c18b1
      try clear c18b2
      try clear c22
      try clear c22b0
      try clear c22b1
      try clear c22b2
      try clear p23
      try clear q23
      try clear hx23
      try clear hcz11_0
      try clear hcz11_1
      try clear hcz11_2
      try clear hcz11_3
      try clear hcz14_0
      try clear hcz14_1
      try clear hcz14_2
      try clear hcz14_3
      try clear hcz20_0
      try clear hcz20_1
      try clear hcz20_2
      try clear hcz20_3
      try clear hcz24_0
      try clear hcz24_1
      try clear hcz24_2
      try clear hcz24_3
      try clear hcz5_0
      try clear hcz5_1
      try clear hcz5_2
      try clear hcz5_3
      try clear hfz11_0
      try clear hfz11_1
      try clear hfz11_2
      try clear hfz11_3
      try clear hfz14_0
      try clear hfz14_1
      try clear hfz14_2
      try clear hfz14_3
      try clear hfz20_0
      try clear hfz20_1
      try clear hfz20_2
      try clear hfz20_3
      try clear hfz24_0
      try clear hfz24_1
      try clear hfz24_2
      try clear hfz24_3
      try clear hfz5_0
      try clear hfz5_1
      try clear hfz5_2
      try clear hfz5_3
      try clear hx236_0
      try clear p236
      try clear q236
      obtain ⟨x3_1,x4_1,rfl,rfl,HA,HK1,BK231,HB⟩:=hrel
      cases gk with
      | zero => exact absurd HA.out (by simp [spec_l2Text.l0])
      | succ k1 =>
       have H:=HA.out
       clear HA
       simp only [spec_l2Text.l0] at H
       by_cases c25 : x4_1 < (l0_2.length : Int)
       ·rw [if_pos c25] at H
        have c25b0 : decide (x4_1 < (l0_2.length : Int)) = true:=decide_eq_true c25
        clear c25
        by_cases c26 : x4_1 > 0
        ·rw [if_pos c26] at H
         have c26b0 : decide (0 < x4_1) = true:=decide_eq_true c26
         clear c26
         by_cases c27 : x3_1.size + 1 ≤ 9223372036854775807
         ·rw [if_pos c27] at H
          have c27b0:=eq_true c27
          have c27b1 : decide (x3_1.size + 1 ≤ 9223372036854775807) = true:=decide_eq_true c27
          try have c27b2 : (9223372036854775807 < x3_1.size + 1) = False:=eq_false (Nat.not_lt.2 c27)
          by_cases c28 : 0 ≤ x4_1
          ·rw [if_pos c28] at H
           have c28b0 : decide (0 ≤ x4_1) = true:=decide_eq_true c28
           clear c28
           replace H:=Option.bind_eq_some_iff.mp H
           obtain ⟨t239,A290,H⟩:=H
           replace H : (if (x3_1 ++ (⟨#[32]⟩ : ByteArray)).size + t239.size ≤ 9223372036854775807 then (spec_l2Text.l0 k1 ((x3_1 ++ (⟨#[32]⟩ : ByteArray)) ++ t239) (wrap64 (x4_1 + 1)) a0_0 a0_1 l0_2 l0_3) else (none)) = some r:=H
           have A29:=Aside0.mk A290
           clear A290
           by_cases c30 : (x3_1 ++ (⟨#[32]⟩ : ByteArray)).size + t239.size ≤ 9223372036854775807
           ·rw [if_pos c30] at H
            have hzc30_ : (9223372036854775807 < x3_1.size + 1 + t239.size) = False:=eq_false (by have h_:=c30;simp only [ByteArray.size_append] at h_;have h0_ : (⟨#[32]⟩ : ByteArray).size = 1:=rfl;omega)
            have c30b0:=eq_true c30
            have c30b1 : decide ((x3_1 ++ (⟨#[32]⟩ : ByteArray)).size + t239.size ≤ 9223372036854775807) = true:=decide_eq_true c30
            try have c30b2 : (9223372036854775807 < (x3_1 ++ (⟨#[32]⟩ : ByteArray)).size + t239.size) = False:=eq_false (Nat.not_lt.2 c30)
            have H':=Aside0.mk H
            clear H
            have hcz31_0:=Up.c0 BK231
            have hcz31_1:=Up.c1 BK231
            have hcz31_2:=Up.c2 BK231
            have hcz31_3:=Up.c3 BK231
            have hfz31_0:=blk_frozen BK231.out 0
            have hfz31_1:=blk_frozen BK231.out 1
            have hfz31_2:=blk_frozen BK231.out 2
            have hfz31_3:=blk_frozen BK231.out 3
            have p238 : 0 ≤ (x4_1 : Int):=Up.od
            have q238 : x4_1 < (l0_2.length : Int):=Up.od
            obtain ⟨ad238,A238_2,c238_2,A238_3,c238_3,e238,hx238_0,hx238_1,hx238_2,hx238_3,hl238_2,hi238_2,hl238_3,hi238_3⟩:=at_T27 HR0_2.out x4_1 p238 q238
            cases e238
            replace hx238_0:=Up.hc HB hx238_0
            replace hx238_1:=Up.hc HB hx238_1
            replace hx238_2:=Up.hc HB hx238_2
            replace hx238_3:=Up.hc HB hx238_3
            have HR238_2:=Aside0.mk hi238_2
            have HC238_2:=Aside0.mk hl238_2
            clear hi238_2 hl238_2
            have HR238_3:=Aside0.mk hi238_3
            have HC238_3:=Aside0.mk hl238_3
            clear hi238_3 hl238_3
            replace p238:=eq_true p238
            replace q238:=eq_true q238
            go_wp2_with (first | ((with_reducible refine gate_callee (f:=33) rfl ?_);refine Up.gl (some 46) Tryd.func33 #[.agg #[.string ((rd_T27 l0_2 x4_1).f0),.int .i64 ((rd_T27 l0_2 x4_1).f1),.slice A238_2 ((rd_T27 l0_2 x4_1).f2).length c238_2,.slice A238_3 ((rd_T27 l0_2 x4_1).f3).length c238_3]] ?_;(with_reducible refine (ih k1 (by have:=HK1.out;omega) ((rd_T27 l0_2 x4_1).f0) ((rd_T27 l0_2 x4_1).f1) _ _ ((rd_T27 l0_2 x4_1).f2) _ _ ((rd_T27 l0_2 x4_1).f3) t239 _ ?side1 ?side2 ?side3 ?side4 A29.out).mono ?_);(case side1 => exact Up.Cx HR238_2 HB);(case side2 => exact HC238_2.out);(case side3 => exact Up.Cx HR238_3 HB);(case side4 => exact HC238_3.out);rintro e w32 ⟨rfl,hb⟩;refine ⟨_,rfl,?_⟩;have n0_:=Up.KB BK231 hb;have n1_:=Aside0.mk (below_step (Up.Bx HB) hb);clear BK231 HB;have BK231:=n0_;have HB:=n1_;clear n0_ n1_;(try clear hb);(try clear hb2);(try clear hk);(try clear hi)))
            go_roundg k1
            case measure => have:=HK1.out;omega
            case rel => exact ⟨((x3_1 ++ (⟨#[32]⟩ : ByteArray)) ++ t239),(wrap64 (x4_1 + 1)),(by first | rfl | (simp;done) | (simp [*];done)),(by first | rfl | (simp;done) | (simp [*];done)),H',⟨by have:=HK1.out;omega⟩,⟨by (with_reducible repeat (first | refine blk_drewN ?_ _ | refine blk_drew ?_ | refine blk_alloc ?_ _));exact BK231.out⟩,⟨Up.Bx HB⟩⟩
           ·rw [if_neg c30] at H
            exact absurd H (by simp)
          ·rw [if_neg c28] at H
           exact absurd H (by simp)
         ·rw [if_neg c27] at H
          exact absurd H (by simp)
        ·rw [if_neg c26] at H
         have c26b0 : decide (0 < x4_1) = false:=decide_eq_false c26
         clear c26
         by_cases c33 : 0 ≤ x4_1
         ·rw [if_pos c33] at H
          have c33b0 : decide (0 ≤ x4_1) = true:=decide_eq_true c33
          clear c33
          replace H:=Option.bind_eq_some_iff.mp H
          obtain ⟨t241,A340,H⟩:=H
          replace H : (if x3_1.size + t241.size ≤ 9223372036854775807 then (spec_l2Text.l0 k1 (x3_1 ++ t241) (wrap64 (x4_1 + 1)) a0_0 a0_1 l0_2 l0_3) else (none)) = some r:=H
          have A34:=Aside0.mk A340
          clear A340
          by_cases c35 : x3_1.size + t241.size ≤ 9223372036854775807
          ·rw [if_pos c35] at H
           have c35b0:=eq_true c35
           have c35b1 : decide (x3_1.size + t241.size ≤ 9223372036854775807) = true:=decide_eq_true c35
           try have c35b2 : (9223372036854775807 < x3_1.size + t241.size) = False:=eq_false (Nat.not_lt.2 c35)
           have H':=Aside0.mk H
           clear H
           have hcz36_0:=Up.c0 BK231
           have hcz36_1:=Up.c1 BK231
           have hcz36_2:=Up.c2 BK231
           have hcz36_3:=Up.c3 BK231
           have hfz36_0:=blk_frozen BK231.out 0
           have hfz36_1:=blk_frozen BK231.out 1
           have hfz36_2:=blk_frozen BK231.out 2
           have hfz36_3:=blk_frozen BK231.out 3
           have p240 : 0 ≤ (x4_1 : Int):=Up.od
           have q240 : x4_1 < (l0_2.length : Int):=Up.od
           obtain ⟨ad240,A240_2,c240_2,A240_3,c240_3,e240,hx240_0,hx240_1,hx240_2,hx240_3,hl240_2,hi240_2,hl240_3,hi240_3⟩:=at_T27 HR0_2.out x4_1 p240 q240
           cases e240
           replace hx240_0:=Up.hc HB hx240_0
           replace hx240_1:=Up.hc HB hx240_1
           replace hx240_2:=Up.hc HB hx240_2
           replace hx240_3:=Up.hc HB hx240_3
           have HR240_2:=Aside0.mk hi240_2
           have HC240_2:=Aside0.mk hl240_2
           clear hi240_2 hl240_2
           have HR240_3:=Aside0.mk hi240_3
           have HC240_3:=Aside0.mk hl240_3
           clear hi240_3 hl240_3
           replace p240:=eq_true p240
           replace q240:=eq_true q240
           go_wp2_with (first | ((with_reducible refine gate_callee (f:=33) rfl ?_);refine Up.gl (some 46) Tryd.func33 #[.agg #[.string ((rd_T27 l0_2 x4_1).f0),.int .i64 ((rd_T27 l0_2 x4_1).f1),.slice A240_2 ((rd_T27 l0_2 x4_1).f2).length c240_2,.slice A240_3 ((rd_T27 l0_2 x4_1).f3).length c240_3]] ?_;(with_reducible refine (ih k1 (by have:=HK1.out;omega) ((rd_T27 l0_2 x4_1).f0) ((rd_T27 l0_2 x4_1).f1) _ _ ((rd_T27 l0_2 x4_1).f2) _ _ ((rd_T27 l0_2 x4_1).f3) t241 _ ?side1 ?side2 ?side3 ?side4 A34.out).mono ?_);(case side1 => exact Up.Cx HR240_2 HB);(case side2 => exact HC240_2.out);(case side3 => exact Up.Cx HR240_3 HB);(case side4 => exact HC240_3.out);rintro e w37 ⟨rfl,hb⟩;refine ⟨_,rfl,?_⟩;have n0_:=Up.KB BK231 hb;have n1_:=Aside0.mk (below_step (Up.Bx HB) hb);clear BK231 HB;have BK231:=n0_;have HB:=n1_;clear n0_ n1_;(try clear hb);(try clear hb2);(try clear hk);(try clear hi)))
           go_roundg k1
           case measure => have:=HK1.out;omega
           case rel => exact ⟨(x3_1 ++ t241),(wrap64 (x4_1 + 1)),(by first | rfl | (simp;done) | (simp [*];done)),(by first | rfl | (simp;done) | (simp [*];done)),H',⟨by have:=HK1.out;omega⟩,⟨by (with_reducible repeat (first | refine blk_drewN ?_ _ | refine blk_drew ?_ | refine blk_alloc ?_ _));exact BK231.out⟩,⟨Up.Bx HB⟩⟩
          ·rw [if_neg c35] at H
           exact absurd H (by simp)
         ·rw [if_neg c33] at H
          exact absurd H (by simp)
       ·rw [if_neg c25] at H
        have c25b0 : decide (x4_1 < (l0_2.length : Int)) = false:=decide_eq_false c25
        clear c25
        by_cases c38 : x3_1.size + 1 ≤ 9223372036854775807
        ·rw [if_pos c38] at H
         have c38b0:=eq_true c38
         have c38b1 : decide (x3_1.size + 1 ≤ 9223372036854775807) = true:=decide_eq_true c38
         try have c38b2 : (9223372036854775807 < x3_1.size + 1) = False:=eq_false (Nat.not_lt.2 c38)
         obtain rfl:=Option.some.inj H
         have hcz39_0:=Up.c0 BK231
         have hcz39_1:=Up.c1 BK231
         have hcz39_2:=Up.c2 BK231
         have hcz39_3:=Up.c3 BK231
         have hfz39_0:=blk_frozen BK231.out 0
         have hfz39_1:=blk_frozen BK231.out 1
         have hfz39_2:=blk_frozen BK231.out 2
         have hfz39_3:=blk_frozen BK231.out 3
         go_wp2
         go_ret
         exact Up.e1 (Up.Bx HB)
        ·rw [if_neg c38] at H
         exact absurd H (by simp)
    ·rw [if_neg c22] at H
     exact absurd H (by simp)

/-! ### spec_ValueText: function 12 -/
def spec_ValueText.f (k : Nat) (l0 : List (List (S81))) (a1_0 : ByteArray) (a1_1 : Int) (l1_2 : List (S27)) (l1_3 : List Int) : Option (ByteArray):=(spec_ValueOk.f k l0 a1_0 a1_1 l1_2 l1_3).bind fun t243 => (if t243 = true then ((spec_l2Text.f k a1_0 a1_1 l1_2 l1_3).bind fun t244 => (some t244)) else (some (⟨#[]⟩ : ByteArray)))
theorem spec_ValueText.mono : ∀ a0 a1 a2 a3 a4 k,LeO (spec_ValueText.f k a0 a1 a2 a3 a4) (spec_ValueText.f (k + 1) a0 a1 a2 a3 a4):=by
 intro a0 a1 a2 a3 a4 k
 unfold spec_ValueText.f
 repeat' first
   | (with_reducible exact spec_ValueOk.mono _ _ _ _ _ _)
   | (with_reducible exact spec_l2Text.mono _ _ _ _ _)
   | (with_reducible exact LeO.refl _)
   | (with_reducible exact LeO.none _)
   | (with_reducible refine LeO.ite ?_ ?_)
   | (with_reducible refine LeO.bind ?_ (fun _ => ?_))
   | exact spec_ValueOk.mono _ _ _ _ _ _
   | exact spec_l2Text.mono _ _ _ _ _
   | exact LeO.none _
   | refine LeO.ite ?_ ?_
   | refine LeO.bind ?_ (fun _ => ?_)
set_option maxHeartbeats 8000000 in
set_option maxRecDepth 100000 in
theorem spec_ValueText.calls (k : Nat) (A0 : Option Addr) (c0 : Nat) (l0 : List (List (S81))) (a1_0 : ByteArray) (a1_1 : Int) (A1_2 : Option Addr) (c1_2 : Nat) (l1_2 : List (S27)) (A1_3 : Option Addr) (c1_3 : Nat) (l1_3 : List Int) (r : ByteArray) (w : World) (hr0 : Kd.C (Kd.slice 81 k81) w A0 l0.length l0) (hc0 : l0.length ≤ c0) (hr1_2 : Kd.C k27 w A1_2 l1_2.length l1_2) (hc1_2 : l1_2.length ≤ c1_2) (hr1_3 : Kd.C (Kd.int .i64) w A1_3 l1_3.length l1_3) (hc1_3 : l1_3.length ≤ c1_3) (h : spec_ValueText.f k l0 a1_0 a1_1 l1_2 l1_3 = some r) :
  Calls Tryd.prog 12 #[.slice A0 l0.length c0,.agg #[.string a1_0,.int .i64 a1_1,.slice A1_2 l1_2.length c1_2,.slice A1_3 l1_3.length c1_3]] w fun e w' => e = .returned (.string r) ∧ Below w.heap.size w w':=by
 have hu27:=Tryd.underlying27
 have HR0:=Aside0.mk hr0
 have HC0:=Aside0.mk hc0
 clear hr0 hc0
 have HR1_2:=Aside0.mk hr1_2
 have HC1_2:=Aside0.mk hc1_2
 clear hr1_2 hc1_2
 have HR1_3:=Aside0.mk hr1_3
 have HC1_3:=Aside0.mk hc1_3
 clear hr1_3 hc1_3
 have HB:=Aside0.mk (Below.refl w.heap.size w)
 have H : ((spec_ValueOk.f k l0 a1_0 a1_1 l1_2 l1_3).bind fun t243 => (if t243 = true then ((spec_l2Text.f k a1_0 a1_1 l1_2 l1_3).bind fun t244 => (some t244)) else (some (⟨#[]⟩ : ByteArray)))) = some r:=h
 clear h
 replace H:=Option.bind_eq_some_iff.mp H
 obtain ⟨t243,A30,H⟩:=H
 replace H : (if t243 = true then ((spec_l2Text.f k a1_0 a1_1 l1_2 l1_3).bind fun t244 => (some t244)) else (some (⟨#[]⟩ : ByteArray))) = some r:=H
 have A3:=Aside0.mk A30
 clear A30
 by_cases c4 : t243 = true
 ·subst c4
  have H1 : ((spec_l2Text.f k a1_0 a1_1 l1_2 l1_3).bind fun t244 => (some t244)) = some r:=by rw [if_pos rfl] at H;exact H
  clear H
  have H:=H1
  clear H1
  replace H:=Option.bind_eq_some_iff.mp H
  obtain ⟨t244,A50,H⟩:=H
  replace H : (some t244) = some r:=H
  have A5:=Aside0.mk A50
  clear A50
  obtain rfl:=Option.some.inj H
  go_enter Tryd.func12,Tryd.ntmps12
  go_wp2_with (first | ((with_reducible refine gate_dst (N:=3) rfl ?_);refine Up.bx 3 27 #[.string a1_0,.int .i64 a1_1,.slice A1_2 l1_2.length c1_2,.slice A1_3 l1_3.length c1_3] ?_;intro gb242 hg w6 hbox hb;have n0_:=Up.BB HB hb;have n1_:=Aside0.mk (hbox);have n2_:=Up.gw hg HB;have n3_:=Up.gw hg HB;clear HB;have HB:=n0_;have BK242:=n1_;have GW242:=n2_;have GE242:=n3_;clear n0_ n1_ n2_ n3_ hb hbox hg;have hcz7_0:=Up.c0 BK242;have hcz7_1:=Up.c1 BK242;have hcz7_2:=Up.c2 BK242;have hcz7_3:=Up.c3 BK242;have hfz7_0:=blk_frozen BK242.out 0;have hfz7_1:=blk_frozen BK242.out 1;have hfz7_2:=blk_frozen BK242.out 2;have hfz7_3:=blk_frozen BK242.out 3) | ((with_reducible refine gate_callee (f:=9) rfl ?_);refine Up.gl (some 7) Tryd.func9 #[.slice A0 l0.length c0,.agg #[.string a1_0,.int .i64 a1_1,.slice A1_2 l1_2.length c1_2,.slice A1_3 l1_3.length c1_3]] ?_;(with_reducible refine (spec_ValueOk.calls k _ _ l0 a1_0 a1_1 _ _ l1_2 _ _ l1_3 true _ ?side1 ?side2 ?side3 ?side4 ?side5 ?side6 A3.out).mono ?_);(case side1 => exact Up.Cx HR0 HB);(case side2 => exact HC0.out);(case side3 => exact Up.Cx HR1_2 HB);(case side4 => exact HC1_2.out);(case side5 => exact Up.Cx HR1_3 HB);(case side6 => exact HC1_3.out);rintro e w8 ⟨rfl,hb⟩;refine ⟨_,rfl,?_⟩;have n0_:=Up.KB BK242 hb;have n1_:=Aside0.mk (below_step (Up.Bx HB) hb);clear BK242 HB;have BK242:=n0_;have HB:=n1_;clear n0_ n1_;(try clear hb);(try clear hb2);(try clear hk);(try clear hi);have hcz9_0:=Up.c0 BK242;have hcz9_1:=Up.c1 BK242;have hcz9_2:=Up.c2 BK242;have hcz9_3:=Up.c3 BK242;have hfz9_0:=blk_frozen BK242.out 0;have hfz9_1:=blk_frozen BK242.out 1;have hfz9_2:=blk_frozen BK242.out 2;have hfz9_3:=blk_frozen BK242.out 3) | ((with_reducible refine gate_callee (f:=33) rfl ?_);refine Up.gl (some 10) Tryd.func33 #[.agg #[.string a1_0,.int .i64 a1_1,.slice A1_2 l1_2.length c1_2,.slice A1_3 l1_3.length c1_3]] ?_;(with_reducible refine (spec_l2Text.calls k a1_0 a1_1 _ _ l1_2 _ _ l1_3 t244 _ ?side1 ?side2 ?side3 ?side4 A5.out).mono ?_);(case side1 => exact Up.Cx HR1_2 HB);(case side2 => exact HC1_2.out);(case side3 => exact Up.Cx HR1_3 HB);(case side4 => exact HC1_3.out);rintro e w10 ⟨rfl,hb⟩;refine ⟨_,rfl,?_⟩;have n0_:=Up.KB BK242 hb;have n1_:=Aside0.mk (below_step (Up.Bx HB) hb);clear BK242 HB;have BK242:=n0_;have HB:=n1_;clear n0_ n1_;(try clear hb);(try clear hb2);(try clear hk);(try clear hi)))
  go_ret
  exact Up.e1 (Up.Bx HB)
 ·replace c4:=Bool.eq_false_iff.mpr c4
  subst c4
  have H1 : (some (⟨#[]⟩ : ByteArray)) = some r:=by rw [if_neg (show ¬ (false = true) by decide)] at H;exact H
  clear H
  have H:=H1
  clear H1
  obtain rfl:=Option.some.inj H
  go_enter Tryd.func12,Tryd.ntmps12
  go_wp2_with (first | ((with_reducible refine gate_dst (N:=3) rfl ?_);refine Up.bx 3 27 #[.string a1_0,.int .i64 a1_1,.slice A1_2 l1_2.length c1_2,.slice A1_3 l1_3.length c1_3] ?_;intro gb242 hg w11 hbox hb;have n0_:=Up.BB HB hb;have n1_:=Aside0.mk (hbox);have n2_:=Up.gw hg HB;have n3_:=Up.gw hg HB;clear HB;have HB:=n0_;have BK242:=n1_;have GW242:=n2_;have GE242:=n3_;clear n0_ n1_ n2_ n3_ hb hbox hg;have hcz12_0:=Up.c0 BK242;have hcz12_1:=Up.c1 BK242;have hcz12_2:=Up.c2 BK242;have hcz12_3:=Up.c3 BK242;have hfz12_0:=blk_frozen BK242.out 0;have hfz12_1:=blk_frozen BK242.out 1;have hfz12_2:=blk_frozen BK242.out 2;have hfz12_3:=blk_frozen BK242.out 3) | ((with_reducible refine gate_callee (f:=9) rfl ?_);refine Up.gl (some 7) Tryd.func9 #[.slice A0 l0.length c0,.agg #[.string a1_0,.int .i64 a1_1,.slice A1_2 l1_2.length c1_2,.slice A1_3 l1_3.length c1_3]] ?_;(with_reducible refine (spec_ValueOk.calls k _ _ l0 a1_0 a1_1 _ _ l1_2 _ _ l1_3 false _ ?side1 ?side2 ?side3 ?side4 ?side5 ?side6 A3.out).mono ?_);(case side1 => exact Up.Cx HR0 HB);(case side2 => exact HC0.out);(case side3 => exact Up.Cx HR1_2 HB);(case side4 => exact HC1_2.out);(case side5 => exact Up.Cx HR1_3 HB);(case side6 => exact HC1_3.out);rintro e w13 ⟨rfl,hb⟩;refine ⟨_,rfl,?_⟩;have n0_:=Up.KB BK242 hb;have n1_:=Aside0.mk (below_step (Up.Bx HB) hb);clear BK242 HB;have BK242:=n0_;have HB:=n1_;clear n0_ n1_;(try clear hb);(try clear hb2);(try clear hk);(try clear hi)))
  go_ret
  exact Up.e1 (Up.Bx HB)

/-! ### laws_szStringS: function 79 -/
def laws_szStringS.l0 : Nat → List ByteArray → Int → Int → Option (Int)
 | 0,_,_,_ => none
 | k + 1,x0,x1,x5 => if x5 < (x0.length : Int) then (if 0 ≤ x5 then (if (wrap64 (x1 - ((rdOf ByteArray.empty x0 x5).size : Int))) < 0 then (some (-1)) else (laws_szStringS.l0 k x0 (wrap64 (x1 - ((rdOf ByteArray.empty x0 x5).size : Int))) (wrap64 (x5 + 1)))) else (none)) else (some x1)
def laws_szStringS.f (k : Nat) (l0 : List ByteArray) (a1 : Int) : Option (Int):=if (wrap64 (a1 - (l0.length : Int))) < 0 then (some (-1)) else (laws_szStringS.l0 k l0 (wrap64 (a1 - (l0.length : Int))) 0)
theorem laws_szStringS.mono_l : ∀ k,(∀ y0 y1 y2,LeO (laws_szStringS.l0 k y0 y1 y2) (laws_szStringS.l0 (k + 1) y0 y1 y2))
 | 0 => fun _ _ _ r h => by simp [laws_szStringS.l0] at h
 | k + 1 => by
  have ih0:=laws_szStringS.mono_l k
  ·intro y0 y1 y2
   unfold laws_szStringS.l0
   repeat' first
   | (with_reducible exact ih0 _ _ _)
   | (with_reducible exact LeO.refl _)
   | (with_reducible exact LeO.none _)
   | (with_reducible refine LeO.ite ?_ ?_)
   | (with_reducible refine LeO.bind ?_ (fun _ => ?_))
   | exact ih0 _ _ _
   | exact LeO.none _
   | refine LeO.ite ?_ ?_
   | refine LeO.bind ?_ (fun _ => ?_)
theorem laws_szStringS.mono : ∀ a0 a1 k,LeO (laws_szStringS.f k a0 a1) (laws_szStringS.f (k + 1) a0 a1):=by
 intro a0 a1 k
 have ih0:=laws_szStringS.mono_l k
 unfold laws_szStringS.f
 repeat' first
   | (with_reducible exact ih0 _ _ _)
   | (with_reducible exact LeO.refl _)
   | (with_reducible exact LeO.none _)
   | (with_reducible refine LeO.ite ?_ ?_)
   | (with_reducible refine LeO.bind ?_ (fun _ => ?_))
   | exact ih0 _ _ _
   | exact LeO.none _
   | refine LeO.ite ?_ ?_
   | refine LeO.bind ?_ (fun _ => ?_)
set_option maxHeartbeats 8000000 in
set_option maxRecDepth 100000 in
theorem laws_szStringS.calls (k : Nat) (A0 : Option Addr) (c0 : Nat) (l0 : List ByteArray) (a1 : Int) (r : Int) (w : World) (hr0 : Kd.C Kd.string w A0 l0.length l0) (hc0 : l0.length ≤ c0) (h : laws_szStringS.f k l0 a1 = some r) :
  Calls Tryd.prog 79 #[.slice A0 l0.length c0,.int .i64 a1] w fun e w' => e = .returned (.int .i64 r) ∧ Drawn0 w w':=by
 have HR0:=Aside0.mk hr0
 have HC0:=Aside0.mk hc0
 clear hr0 hc0
 have H : (if (wrap64 (a1 - (l0.length : Int))) < 0 then (some (-1)) else (laws_szStringS.l0 k l0 (wrap64 (a1 - (l0.length : Int))) 0)) = some r:=h
 clear h
 by_cases c3 : (wrap64 (a1 - (l0.length : Int))) < 0
 ·rw [if_pos c3] at H
  have c3b0 : decide ((wrap64 (a1 - (l0.length : Int))) < 0) = true:=decide_eq_true c3
  clear c3
  obtain rfl:=Option.some.inj H
  go_enter Tryd.func79,Tryd.ntmps79
  go_wp2
  go_ret
  exact Up.e2
 ·rw [if_neg c3] at H
  have c3b0 : decide ((wrap64 (a1 - (l0.length : Int))) < 0) = false:=decide_eq_false c3
  clear c3
  have H':=Aside0.mk H
  clear H
  go_enter Tryd.func79,Tryd.ntmps79
  go_wp2
  go_loopg [1,5] k (fun kq v1 v5 w' => ∃ (x1_1 : Int) (x5_1 : Int),v1 = .int .i64 x1_1 ∧ v5 = .int .i64 x5_1 ∧ Aside0 (laws_szStringS.l0 kq l0 x1_1 x5_1 = some r) ∧ Aside0 (kq ≤ k) ∧ Drawn0 w w')
  case atStart => exact ⟨(wrap64 (a1 - (l0.length : Int))),(0),(by first | rfl | (simp;done) | (simp [*];done)),(by first | rfl | (simp;done) | (simp [*];done)),H',⟨Nat.le_refl _⟩,by repeat (first | exact Drawn0.refl _ | apply Drawn0.step)⟩
  case round =>
   clear H'
   try clear p2
   try clear c3
   try clear c3b0
   obtain ⟨x1_1,x5_1,rfl,rfl,HA,HK1,⟨m1,rfl⟩⟩:=hrel
   cases gk with
   | zero => exact absurd HA.out (by simp [laws_szStringS.l0])
   | succ k1 =>
    have H:=HA.out
    clear HA
    simp only [laws_szStringS.l0] at H
    by_cases c4 : x5_1 < (l0.length : Int)
    ·rw [if_pos c4] at H
     have c4b0 : decide (x5_1 < (l0.length : Int)) = true:=decide_eq_true c4
     clear c4
     by_cases c5 : 0 ≤ x5_1
     ·rw [if_pos c5] at H
      have c5b0 : decide (0 ≤ x5_1) = true:=decide_eq_true c5
      clear c5
      by_cases c6 : (wrap64 (x1_1 - ((rdOf ByteArray.empty l0 x5_1).size : Int))) < 0
      ·rw [if_pos c6] at H
       have c6b0 : decide ((wrap64 (x1_1 - ((rdOf ByteArray.empty l0 x5_1).size : Int))) < 0) = true:=decide_eq_true c6
       clear c6
       obtain rfl:=Option.some.inj H
       have p245 : 0 ≤ (x5_1 : Int):=Up.od
       have q245 : x5_1 < (l0.length : Int):=Up.od
       obtain ⟨ad245,e245,hx245_0⟩:=Kd.at_string HR0.out x5_1 p245 q245
       cases e245
       replace p245:=eq_true p245
       replace q245:=eq_true q245
       go_wp2
       go_ret
       exact Up.e2
      ·rw [if_neg c6] at H
       have c6b0 : decide ((wrap64 (x1_1 - ((rdOf ByteArray.empty l0 x5_1).size : Int))) < 0) = false:=decide_eq_false c6
       clear c6
       have H':=Aside0.mk H
       clear H
       have p245 : 0 ≤ (x5_1 : Int):=Up.od
       have q245 : x5_1 < (l0.length : Int):=Up.od
       obtain ⟨ad245,e245,hx245_0⟩:=Kd.at_string HR0.out x5_1 p245 q245
       cases e245
       replace p245:=eq_true p245
       replace q245:=eq_true q245
       go_wp2
       go_roundg k1
       case measure => have:=HK1.out;omega
       case rel => exact ⟨(wrap64 (x1_1 - ((rdOf ByteArray.empty l0 x5_1).size : Int))),(wrap64 (x5_1 + 1)),(by first | rfl | (simp;done) | (simp [*];done)),(by first | rfl | (simp;done) | (simp [*];done)),H',⟨by have:=HK1.out;omega⟩,by repeat (first | exact Drawn0.refl _ | apply Drawn0.step)⟩
     ·rw [if_neg c5] at H
      exact absurd H (by simp)
    ·rw [if_neg c4] at H
     have c4b0 : decide (x5_1 < (l0.length : Int)) = false:=decide_eq_false c4
     clear c4
     obtain rfl:=Option.some.inj H
     go_wp2
     go_ret
     exact Up.e2

end Go.Proofs.YtdgmlakgnbmbbaaDoor.OFnExactValueText
