-- Laid by a program of this session (wip/myprint.py): the kit's print of the functions, contracts of our own among them.
import Derived.Test.YtfkhjnmgaadomaaDoorOFnInsTextx0
import Derived.Test.YtfkhjnmgaadomaaDoorOFnInsTextx2
namespace Go.Proofs.YtfkhjnmgaadomaaDoor.OFnInsText
open Go.RowKit Go.Proofs.YtfkhjnmgaadomaaDoorW.PrintWords Go.Proofs.YtfkhjnmgaadomaaDoorW.PrintLast Go.Proofs.YtfkhjnmgaadomaaDoorW.PrintMore
attribute [local go_sem] max2_int min2_int max_two min_two max_three min_three max_four min_four   -- for this text's walks alone
set_option linter.unusedVariables false
set_option linter.unusedSimpArgs false

/-! ### spec_l6Dec: function 38 -/
def spec_l6Dec.f : Nat → Int → Option (ByteArray)
 | 0,_ => none
 | k + 1,a0 => if a0 < (-9223372036854775807) then (some (⟨#[45,57,50,50,51,51,55,50,48,51,54,56,53,52,55,55,53,56,48,56]⟩ : ByteArray)) else (if a0 < 0 then ((spec_l6Dec.f k (wrap64 (-a0))).bind fun t174 => (if 1 + t174.size ≤ 9223372036854775807 then (some ((⟨#[45]⟩ : ByteArray) ++ t174)) else (none))) else (if a0 < 10 then (some (strOfNums (([(wrap64 (48 + a0)) % 256] : List Int)))) else ((spec_l6Dec.f k (wrap64 (Int.tdiv a0 10))).bind fun t178 => ((some (([(wrap64 (48 + (Int.tmod a0 10))) % 256] : List Int) : List Int)).bind fun y179 => (if t178.size + (strOfNums y179).size ≤ 9223372036854775807 then (some (t178 ++ (strOfNums y179))) else (none))))))
theorem spec_l6Dec.mono_l : ∀ k,(∀ y0,LeO (spec_l6Dec.f k y0) (spec_l6Dec.f (k + 1) y0))
 | 0 => fun _ r h => by simp [spec_l6Dec.f] at h
 | k + 1 => by
  have ih0:=spec_l6Dec.mono_l k
  ·intro y0
   unfold spec_l6Dec.f
   repeat' first
   | (with_reducible exact ih0 _)
   | (with_reducible exact LeO.refl _)
   | (with_reducible exact LeO.none _)
   | (with_reducible refine LeO.ite ?_ ?_)
   | (with_reducible refine LeO.bind ?_ (fun _ => ?_))
   | exact ih0 _
   | exact LeO.none _
   | refine LeO.ite ?_ ?_
   | refine LeO.bind ?_ (fun _ => ?_)
theorem spec_l6Dec.mono : ∀ a0 k,LeO (spec_l6Dec.f k a0) (spec_l6Dec.f (k + 1) a0):=by
 intro a0 k
 have ih0:=spec_l6Dec.mono_l k
 exact ih0 a0
def spec_l6Dec.T7 : Bool × List (List Nat × List Nat):=(true,[([],[]),([0],[0]),([1],[1]),([],[]),([3],[3]),([4],[4]),([5],[5]),([6],[6]),([7],[7]),([2,8],[2,8]),([9,2,0,1,2,3,4,5,6,7,8,9],[9])])
def spec_l6Dec.B7 : List Nat:=[0,1,3,0,8,24,56,120,248,511,1023]
theorem spec_l6Dec.tab7 : rtab .any (opsOf Tryd.f38 7) = spec_l6Dec.T7:=by kernel_rfl
theorem spec_l6Dec.bits7 : waitsOk spec_l6Dec.T7.2 spec_l6Dec.B7 = true:=by kernel_rfl
set_option maxHeartbeats 8000000 in
set_option maxRecDepth 100000 in
theorem spec_l6Dec.calls (k : Nat) : ∀ (a0 : Int) (r : ByteArray) (w : World) (h : spec_l6Dec.f k a0 = some r),
  Calls Tryd.prog 38 #[.int .i64 a0] w fun e w' => e = .returned (.string r) ∧ Below w.heap.size w w':=by
 induction k using Nat.strongRecOn with
 | _ k ih =>
 intro a0 r w h
 cases k with
 | zero => exact absurd h (by simp [spec_l6Dec.f])
 | succ k =>
 simp only [spec_l6Dec.f] at h
 have HB:=Aside0.mk (Below.refl w.heap.size w)
 have H : (if a0 < (-9223372036854775807) then (some (⟨#[45,57,50,50,51,51,55,50,48,51,54,56,53,52,55,55,53,56,48,56]⟩ : ByteArray)) else (if a0 < 0 then ((spec_l6Dec.f k (wrap64 (-a0))).bind fun t174 => (if 1 + t174.size ≤ 9223372036854775807 then (some ((⟨#[45]⟩ : ByteArray) ++ t174)) else (none))) else (if a0 < 10 then (some (strOfNums (([(wrap64 (48 + a0)) % 256] : List Int)))) else ((spec_l6Dec.f k (wrap64 (Int.tdiv a0 10))).bind fun t178 => ((some (([(wrap64 (48 + (Int.tmod a0 10))) % 256] : List Int) : List Int)).bind fun y179 => (if t178.size + (strOfNums y179).size ≤ 9223372036854775807 then (some (t178 ++ (strOfNums y179))) else (none))))))) = some r:=h
 clear h
 by_cases c2 : a0 < (-9223372036854775807)
 ·rw [if_pos c2] at H
  have c2b0 : decide (a0 < (-9223372036854775807)) = true:=decide_eq_true c2
  clear c2
  obtain rfl:=Option.some.inj H
  go_enter Tryd.func38,Tryd.ntmps38
  go_wp2
  go_ret
  exact Up.e1 (Up.Bup HB)
 ·rw [if_neg c2] at H
  have c2b0 : decide (a0 < (-9223372036854775807)) = false:=decide_eq_false c2
  clear c2
  by_cases c3 : a0 < 0
  ·rw [if_pos c3] at H
   have c3b0 : decide (a0 < 0) = true:=decide_eq_true c3
   clear c3
   replace H:=Option.bind_eq_some_iff.mp H
   obtain ⟨t174,A40,H⟩:=H
   replace H : (if 1 + t174.size ≤ 9223372036854775807 then (some ((⟨#[45]⟩ : ByteArray) ++ t174)) else (none)) = some r:=H
   have A4:=Aside0.mk A40
   clear A40
   by_cases c5 : 1 + t174.size ≤ 9223372036854775807
   ·rw [if_pos c5] at H
    have c5b0:=eq_true c5
    have c5b1 : decide (1 + t174.size ≤ 9223372036854775807) = true:=decide_eq_true c5
    try have c5b2 : (9223372036854775807 < 1 + t174.size) = False:=eq_false (Nat.not_lt.2 c5)
    obtain rfl:=Option.some.inj H
    go_enter Tryd.func38,Tryd.ntmps38
    go_wp2_with (first | ((with_reducible refine gate_callee (f:=38) rfl ?_);refine Up.gl (some 9) Tryd.func38 #[.int .i64 (wrap64 (-a0))] ?_;(with_reducible refine (ih k (by omega) (wrap64 (-a0)) t174 _ A4.out).mono ?_);rintro e w6 ⟨rfl,hb⟩;refine ⟨_,rfl,?_⟩;have n0_:=Up.BB HB hb;clear HB;have HB:=n0_;clear n0_;(try clear hb);(try clear hb2);(try clear hk);(try clear hi)))
    go_ret
    exact Up.e1 (Up.Bup HB)
   ·rw [if_neg c5] at H
    exact absurd H (by simp)
  ·rw [if_neg c3] at H
   have c3b0 : decide (a0 < 0) = false:=decide_eq_false c3
   clear c3
   by_cases c7 : a0 < 10
   ·rw [if_pos c7] at H
    have c7b0 : decide (a0 < 10) = true:=decide_eq_true c7
    clear c7
    obtain ⟨y175,hy175⟩ : ∃ y_ : List Int,y_ = (([(wrap64 (48 + a0)) % 256] : List Int)):=⟨_,rfl⟩
    replace H : (some (strOfNums y175)) = some r:=by first | (rw [hy175];with_reducible exact H) | (have H2_:=(Option.bind_some _ _).symm.trans H;rw [hy175];with_reducible exact H2_) | (have H2_:=(Option.bind_some _ _).symm.trans H;with_reducible exact H2_) | with_reducible exact H | (rw [hy175];exact H) | exact H
    have Ny175:=Aside0.mk hy175
    clear hy175
    obtain rfl:=Option.some.inj H
    go_enter Tryd.func38,Tryd.ntmps38
    go_wp2_with (first | ((with_reducible refine gate_dst (N:=16) rfl ?_);refine Kd.R_lit (Kd.int .u8) _ 5 ?hg (N:=16) ?hd (xs:=([(wrap64 (48 + a0)) % 256] : List Int)) (inner:=[.int .u8 ((wrap64 (48 + a0)) % 256)]) (ok:=fun _ => True) (okp:=fun _ => True) ?hr ?hp (fun _ hk => hk) trivial (Below.refl _ _) (Nat.le_refl _) (by simp) ?_;(case hd => rfl);(case hg => rfl);(case hr => first | (go_simp;done) | (go_simp;rfl));(case hp => exact (Reps.one (show Kd.M (Kd.int .u8) _ _ _ ((wrap64 (48 + a0)) % 256) [.int .u8 ((wrap64 (48 + a0)) % 256)] from rfl) (Reps.none _ _)));intro v176 w8 ho9 hb hg_ hnew_;clear hg_ hnew_;(first | rw [← Ny175.out] at ho9 | (simp only [Int.reduceToNat] at ho9;rw [← Ny175.out] at ho9));have n0_:=Aside0.mk (Kd.R_lower ho9 (below_size (Up.Bup HB)));have n1_:=Up.BB HB hb;clear HB;have HO177:=n0_;have HB:=n1_;clear n0_ n1_ hb ho9;have hcv10:=own_string (P:=Tryd.prog) Tryd.underlying29 Tryd.underlying5 Tryd.underlying9 (Kd.own_of_R HO177.out)))
    go_ret
    exact Up.e1 (Up.Bup HB)
   ·rw [if_neg c7] at H
    have c7b0 : decide (a0 < 10) = false:=decide_eq_false c7
    clear c7
    replace H:=Option.bind_eq_some_iff.mp H
    obtain ⟨t178,A110,H⟩:=H
    replace H : ((some (([(wrap64 (48 + (Int.tmod a0 10))) % 256] : List Int) : List Int)).bind fun y179 => (if t178.size + (strOfNums y179).size ≤ 9223372036854775807 then (some (t178 ++ (strOfNums y179))) else (none))) = some r:=H
    have A11:=Aside0.mk A110
    clear A110
    obtain ⟨y179,hy179⟩ : ∃ y_ : List Int,y_ = (([(wrap64 (48 + (Int.tmod a0 10))) % 256] : List Int)):=⟨_,rfl⟩
    replace H : (if t178.size + (strOfNums y179).size ≤ 9223372036854775807 then (some (t178 ++ (strOfNums y179))) else (none)) = some r:=by first | (rw [hy179];with_reducible exact H) | (have H2_:=(Option.bind_some _ _).symm.trans H;rw [hy179];with_reducible exact H2_) | (have H2_:=(Option.bind_some _ _).symm.trans H;with_reducible exact H2_) | with_reducible exact H | (rw [hy179];exact H) | exact H
    have Ny179:=Aside0.mk hy179
    clear hy179
    by_cases c12 : t178.size + (strOfNums y179).size ≤ 9223372036854775807
    ·rw [if_pos c12] at H
     have c12b0:=eq_true c12
     have c12b1 : decide (t178.size + (strOfNums y179).size ≤ 9223372036854775807) = true:=decide_eq_true c12
     try have c12b2 : (9223372036854775807 < t178.size + (strOfNums y179).size) = False:=eq_false (Nat.not_lt.2 c12)
     obtain rfl:=Option.some.inj H
     go_enter Tryd.func38,Tryd.ntmps38
     try go_wp2
     have n0_:=Aside0.mk (below_drew1 HB.out)
     clear HB
     have HB:=n0_
     clear n0_
     refine start_ (n:=11) (S:=fun w' => True) (ds:=[]) #[false,false,false,false,false,false,false,false,false,false,false] (by kernel_rfl) rfl rfl trivial (fun hHeld => ?_);refine with_tabW spec_l6Dec.tab7 spec_l6Dec.bits7 (fun HT_ HW_ => ?_)
     generalize w.drew = w13 at HB hHeld ⊢
     refine Up.pu 0 (some 18) HT_ ?_
     refine Up.pu 1 (some 19) HT_ ?_
     refine Up.pu 3 (some 21) HT_ ?_
     refine Up.pu 4 (some 22) HT_ ?_
     refine Up.pu 5 (some 23) HT_ ?_
     refine Up.pu 6 (some 24) HT_ ?_
     refine join_ (σ:=Value) 2 #[true,true,true,true,true,true,true,true,true,false,false] (fun s_ => [(20,.string t178),(25,s_),(26,.string (strOfNums y179))]) (fun s_ w' => (Kd.R (Kd.int .u8) 5 w' w.heap.size (fun _ => True) s_ y179) ∧ (Below w.heap.size w w')) ?_ ?_
     rotate_left
     ·intro hCont
      refine two_ (i:=2) (j:=7) (Ni:=some 20) (Nj:=some 25) #[true,true,true,true,true,true,true,false,false,false,false] #[true,true,false,true,true,true,true,true,false,false,false] rfl rfl rfl rfl (two_of HT_.out (by kernel_rfl)) (by decide) (by decide) (fun K hK => ?_) (fun K hK => ?_)
      ·skip
       refine Up.go Tryd.func38 #[.int .i64 (wrap64 (Int.tdiv a0 10))] ?_
       with_reducible refine (ih k (by omega) (wrap64 (Int.tdiv a0 10)) t178 _ A11.out).mono ?_
       rintro e w14 ⟨rfl,hb⟩
       refine ⟨_,rfl,?_⟩
       have n0_:=Up.BB HB hb
       clear HB
       have HB:=n0_
       clear n0_
       (try clear hb)
       (try clear hb2)
       (try clear hk)
       (try clear hi)
       refine hK.out _ _ trivial (fun hHeld => ?_)
       clear hK K
       refine Up.nm 20 ?_
       refine Up.on 7 (some 25) HT_ (fun K hK => ?_)
       refine Kd.R_lit_step (Kd.int .u8) _ 5 ?hg (N:=25) ?hd (xs:=([(wrap64 (48 + (Int.tmod a0 10))) % 256] : List Int)) (inner:=[.int .u8 ((wrap64 (48 + (Int.tmod a0 10))) % 256)]) (ok:=fun _ => True) (okp:=fun _ => True) ?hr ?hp (fun _ hk => hk) trivial (Below.refl _ _) (Nat.le_refl _) (by simp) ?_;(case hd => rfl);(case hg => rfl);(case hr => first | (go_simp;done) | (go_simp;rfl));(case hp => exact (Reps.one (show Kd.M (Kd.int .u8) _ _ _ ((wrap64 (48 + (Int.tmod a0 10))) % 256) [.int .u8 ((wrap64 (48 + (Int.tmod a0 10))) % 256)] from rfl) (Reps.none _ _)))
       intro v180 w15 ho16 hb hg_ hnew_
       clear hg_ hnew_
       (first | rw [← Ny179.out] at ho16 | (simp only [Int.reduceToNat] at ho16;rw [← Ny179.out] at ho16))
       have n0_:=Aside0.mk (Kd.R_lower ho16 (below_size (Up.Bup HB)))
       have n1_:=Up.BB HB hb
       clear HB
       have HO181:=n0_
       have HB:=n1_
       clear n0_ n1_
       clear hb ho16
       refine hK.out _ _ trivial (fun hHeld => ?_)
       clear hK K
       refine Up.nm 25 ?_
       refine Up.on 8 (some 26) HT_ (fun K hK => ?_)
       have hcv17:=own_string (P:=Tryd.prog) Tryd.underlying29 Tryd.underlying5 Tryd.underlying9 (Kd.own_of_R HO181.out)
       refine value_ (w1:=?_) (v:=?_) (by rfl) rfl ?_ ?_
       rotate_left 2
       ·go_simp
        constructor
        ·rfl
        ·rfl
       clear hcv17
       refine hK.out _ _ trivial (fun hHeld => ?_)
       clear hK K
       refine Up.nm 26 ?_
       exact norm_ (by simp only [putAll,Act.put,List.setIfInBounds_toArray,List.set_cons_zero,List.set_cons_succ]) (hCont (v180) _ ⟨(Up.Rup HO181),(Up.Bup HB)⟩)
      ·skip
       refine Kd.R_lit_step (Kd.int .u8) _ 5 ?hg (N:=25) ?hd (xs:=([(wrap64 (48 + (Int.tmod a0 10))) % 256] : List Int)) (inner:=[.int .u8 ((wrap64 (48 + (Int.tmod a0 10))) % 256)]) (ok:=fun _ => True) (okp:=fun _ => True) ?hr ?hp (fun _ hk => hk) trivial (Below.refl _ _) (Nat.le_refl _) (by simp) ?_;(case hd => rfl);(case hg => rfl);(case hr => first | (go_simp;done) | (go_simp;rfl));(case hp => exact (Reps.one (show Kd.M (Kd.int .u8) _ _ _ ((wrap64 (48 + (Int.tmod a0 10))) % 256) [.int .u8 ((wrap64 (48 + (Int.tmod a0 10))) % 256)] from rfl) (Reps.none _ _)))
       intro v180 w14 ho15 hb hg_ hnew_
       clear hg_ hnew_
       (first | rw [← Ny179.out] at ho15 | (simp only [Int.reduceToNat] at ho15;rw [← Ny179.out] at ho15))
       have n0_:=Aside0.mk (Kd.R_lower ho15 (below_size (Up.Bup HB)))
       have n1_:=Up.BB HB hb
       clear HB
       have HO181:=n0_
       have HB:=n1_
       clear n0_ n1_
       clear hb ho15
       refine hK.out _ _ trivial (fun hHeld => ?_)
       clear hK K
       refine Up.nm 25 ?_
       refine two_ (i:=2) (j:=8) (Ni:=some 20) (Nj:=some 26) #[true,true,true,true,true,true,true,true,false,false,false] #[true,true,false,true,true,true,true,true,true,false,false] rfl rfl rfl rfl (two_of HT_.out (by kernel_rfl)) (by decide) (by decide) (fun K hK => ?_) (fun K hK => ?_)
       ·skip
        refine Up.go Tryd.func38 #[.int .i64 (wrap64 (Int.tdiv a0 10))] ?_
        with_reducible refine (ih k (by omega) (wrap64 (Int.tdiv a0 10)) t178 _ A11.out).mono ?_
        rintro e w16 ⟨rfl,hb⟩
        refine ⟨_,rfl,?_⟩
        have n0_:=Up.RB HO181 hb
        have n1_:=Up.BB HB hb
        clear HO181
        clear HB
        have HO181:=n0_
        have HB:=n1_
        clear n0_ n1_
        (try clear hb)
        (try clear hb2)
        (try clear hk)
        (try clear hi)
        refine hK.out _ _ trivial (fun hHeld => ?_)
        clear hK K
        refine Up.nm 20 ?_
        refine Up.on 8 (some 26) HT_ (fun K hK => ?_)
        have hcv17:=own_string (P:=Tryd.prog) Tryd.underlying29 Tryd.underlying5 Tryd.underlying9 (Kd.own_of_R HO181.out)
        refine value_ (w1:=?_) (v:=?_) (by rfl) rfl ?_ ?_
        rotate_left 2
        ·go_simp
         constructor
         ·rfl
         ·rfl
        clear hcv17
        refine hK.out _ _ trivial (fun hHeld => ?_)
        clear hK K
        refine Up.nm 26 ?_
        exact norm_ (by simp only [putAll,Act.put,List.setIfInBounds_toArray,List.set_cons_zero,List.set_cons_succ]) (hCont (v180) _ ⟨(Up.Rup HO181),(Up.Bup HB)⟩)
       ·skip
        have hcv16:=own_string (P:=Tryd.prog) Tryd.underlying29 Tryd.underlying5 Tryd.underlying9 (Kd.own_of_R HO181.out)
        refine value_ (w1:=?_) (v:=?_) (by rfl) rfl ?_ ?_
        rotate_left 2
        ·go_simp
         constructor
         ·rfl
         ·rfl
        clear hcv16
        refine hK.out _ _ trivial (fun hHeld => ?_)
        clear hK K
        refine Up.nm 26 ?_
        refine Up.on 2 (some 20) HT_ (fun K hK => ?_)
        refine Up.go Tryd.func38 #[.int .i64 (wrap64 (Int.tdiv a0 10))] ?_
        with_reducible refine (ih k (by omega) (wrap64 (Int.tdiv a0 10)) t178 _ A11.out).mono ?_
        rintro e w17 ⟨rfl,hb⟩
        refine ⟨_,rfl,?_⟩
        have n0_:=Up.RB HO181 hb
        have n1_:=Up.BB HB hb
        clear HO181
        clear HB
        have HO181:=n0_
        have HB:=n1_
        clear n0_ n1_
        (try clear hb)
        (try clear hb2)
        (try clear hk)
        (try clear hi)
        refine hK.out _ _ trivial (fun hHeld => ?_)
        clear hK K
        refine Up.nm 20 ?_
        exact norm_ (by simp only [putAll,Act.put,List.setIfInBounds_toArray,List.set_cons_zero,List.set_cons_succ]) (hCont (v180) _ ⟨(Up.Rup HO181),(Up.Bup HB)⟩)
     rintro v180 w18 ⟨h0_,h1_⟩
     have n0_ : Aside0 (Kd.R (Kd.int .u8) 5 w18 w.heap.size (fun _ => True) v180 y179):=⟨h0_⟩
     have n1_ : Aside0 (Below w.heap.size w w18):=⟨h1_⟩
     clear HB
     clear h0_ h1_
     have HO181:=n0_
     have HB:=n1_
     clear n0_ n1_
     have hHeld:=trivial
     refine norm_ (a':=?_) ?_ ?_
     rotate_left
     ·simp only [putAll,Act.put,List.setIfInBounds_toArray,List.set_cons_zero,List.set_cons_succ]
      rfl
     refine Up.pu 9 (some 27) HT_ ?_
     refine Up.pu 10 (some 2) HT_ ?_
     refine done_ (done_of HT_.out (by kernel_rfl)) ?_
     try go_wp2
     go_ret
     exact Up.e1 (Up.Bup HB)
    ·rw [if_neg c12] at H
     exact absurd H (by simp)

/-! ### spec_InsText: function 22 -/
def spec_InsText.f (k : Nat) (a0_0 : ByteArray) (a0_1 : Int) (a0_2 : Int) : Option (ByteArray):=(spec_InsOk.f k a0_0 a0_1 a0_2).bind fun t183 => (if t183 = true then ((spec_l3Needs.f k a0_0).bind fun bt184 => (if bt184.2.1 > 0 then (if a0_0.size + 1 ≤ 9223372036854775807 then ((spec_l6Dec.f k a0_1).bind fun t189 => (if (a0_0 ++ (⟨#[32]⟩ : ByteArray)).size + t189.size ≤ 9223372036854775807 then (if bt184.2.2.1 > 0 then (if ((a0_0 ++ (⟨#[32]⟩ : ByteArray)) ++ t189).size + 1 ≤ 9223372036854775807 then ((spec_l6Dec.f k a0_2).bind fun t190 => (if (((a0_0 ++ (⟨#[32]⟩ : ByteArray)) ++ t189) ++ (⟨#[32]⟩ : ByteArray)).size + t190.size ≤ 9223372036854775807 then (some ((((a0_0 ++ (⟨#[32]⟩ : ByteArray)) ++ t189) ++ (⟨#[32]⟩ : ByteArray)) ++ t190)) else (none))) else (none)) else (some ((a0_0 ++ (⟨#[32]⟩ : ByteArray)) ++ t189))) else (none))) else (none)) else (if bt184.2.2.1 > 0 then (if a0_0.size + 1 ≤ 9223372036854775807 then ((spec_l6Dec.f k a0_2).bind fun t191 => (if (a0_0 ++ (⟨#[32]⟩ : ByteArray)).size + t191.size ≤ 9223372036854775807 then (some ((a0_0 ++ (⟨#[32]⟩ : ByteArray)) ++ t191)) else (none))) else (none)) else (some a0_0)))) else (some (⟨#[]⟩ : ByteArray)))
theorem spec_InsText.mono : ∀ a0 a1 a2 k,LeO (spec_InsText.f k a0 a1 a2) (spec_InsText.f (k + 1) a0 a1 a2):=by
 intro a0 a1 a2 k
 unfold spec_InsText.f
 repeat' first
   | (with_reducible exact spec_InsOk.mono _ _ _ _)
   | (with_reducible exact spec_l3Needs.mono _ _)
   | (with_reducible exact spec_l6Dec.mono _ _)
   | (with_reducible exact LeO.refl _)
   | (with_reducible exact LeO.none _)
   | (with_reducible refine LeO.ite ?_ ?_)
   | (with_reducible refine LeO.bind ?_ (fun _ => ?_))
   | exact spec_InsOk.mono _ _ _ _
   | exact spec_l3Needs.mono _ _
   | exact spec_l6Dec.mono _ _
   | exact LeO.none _
   | refine LeO.ite ?_ ?_
   | refine LeO.bind ?_ (fun _ => ?_)
set_option maxHeartbeats 8000000 in
set_option maxRecDepth 100000 in
theorem spec_InsText.calls (k : Nat) (a0_0 : ByteArray) (a0_1 : Int) (a0_2 : Int) (r : ByteArray) (w : World) (h : spec_InsText.f k a0_0 a0_1 a0_2 = some r) :
  Calls Tryd.prog 22 #[.agg #[.string a0_0,.int .i64 a0_1,.int .i64 a0_2]] w fun e w' => e = .returned (.string r) ∧ Below w.heap.size w w':=by
 have hu26:=Tryd.underlying26
 have HB:=Aside0.mk (Below.refl w.heap.size w)
 have H : ((spec_InsOk.f k a0_0 a0_1 a0_2).bind fun t183 => (if t183 = true then ((spec_l3Needs.f k a0_0).bind fun bt184 => (if bt184.2.1 > 0 then (if a0_0.size + 1 ≤ 9223372036854775807 then ((spec_l6Dec.f k a0_1).bind fun t189 => (if (a0_0 ++ (⟨#[32]⟩ : ByteArray)).size + t189.size ≤ 9223372036854775807 then (if bt184.2.2.1 > 0 then (if ((a0_0 ++ (⟨#[32]⟩ : ByteArray)) ++ t189).size + 1 ≤ 9223372036854775807 then ((spec_l6Dec.f k a0_2).bind fun t190 => (if (((a0_0 ++ (⟨#[32]⟩ : ByteArray)) ++ t189) ++ (⟨#[32]⟩ : ByteArray)).size + t190.size ≤ 9223372036854775807 then (some ((((a0_0 ++ (⟨#[32]⟩ : ByteArray)) ++ t189) ++ (⟨#[32]⟩ : ByteArray)) ++ t190)) else (none))) else (none)) else (some ((a0_0 ++ (⟨#[32]⟩ : ByteArray)) ++ t189))) else (none))) else (none)) else (if bt184.2.2.1 > 0 then (if a0_0.size + 1 ≤ 9223372036854775807 then ((spec_l6Dec.f k a0_2).bind fun t191 => (if (a0_0 ++ (⟨#[32]⟩ : ByteArray)).size + t191.size ≤ 9223372036854775807 then (some ((a0_0 ++ (⟨#[32]⟩ : ByteArray)) ++ t191)) else (none))) else (none)) else (some a0_0)))) else (some (⟨#[]⟩ : ByteArray)))) = some r:=h
 clear h
 replace H:=Option.bind_eq_some_iff.mp H
 obtain ⟨t183,A20,H⟩:=H
 replace H : (if t183 = true then ((spec_l3Needs.f k a0_0).bind fun bt184 => (if bt184.2.1 > 0 then (if a0_0.size + 1 ≤ 9223372036854775807 then ((spec_l6Dec.f k a0_1).bind fun t189 => (if (a0_0 ++ (⟨#[32]⟩ : ByteArray)).size + t189.size ≤ 9223372036854775807 then (if bt184.2.2.1 > 0 then (if ((a0_0 ++ (⟨#[32]⟩ : ByteArray)) ++ t189).size + 1 ≤ 9223372036854775807 then ((spec_l6Dec.f k a0_2).bind fun t190 => (if (((a0_0 ++ (⟨#[32]⟩ : ByteArray)) ++ t189) ++ (⟨#[32]⟩ : ByteArray)).size + t190.size ≤ 9223372036854775807 then (some ((((a0_0 ++ (⟨#[32]⟩ : ByteArray)) ++ t189) ++ (⟨#[32]⟩ : ByteArray)) ++ t190)) else (none))) else (none)) else (some ((a0_0 ++ (⟨#[32]⟩ : ByteArray)) ++ t189))) else (none))) else (none)) else (if bt184.2.2.1 > 0 then (if a0_0.size + 1 ≤ 9223372036854775807 then ((spec_l6Dec.f k a0_2).bind fun t191 => (if (a0_0 ++ (⟨#[32]⟩ : ByteArray)).size + t191.size ≤ 9223372036854775807 then (some ((a0_0 ++ (⟨#[32]⟩ : ByteArray)) ++ t191)) else (none))) else (none)) else (some a0_0)))) else (some (⟨#[]⟩ : ByteArray))) = some r:=H
 have A2:=Aside0.mk A20
 clear A20
 by_cases c3 : t183 = true
 ·subst c3
  have H1 : ((spec_l3Needs.f k a0_0).bind fun bt184 => (if bt184.2.1 > 0 then (if a0_0.size + 1 ≤ 9223372036854775807 then ((spec_l6Dec.f k a0_1).bind fun t189 => (if (a0_0 ++ (⟨#[32]⟩ : ByteArray)).size + t189.size ≤ 9223372036854775807 then (if bt184.2.2.1 > 0 then (if ((a0_0 ++ (⟨#[32]⟩ : ByteArray)) ++ t189).size + 1 ≤ 9223372036854775807 then ((spec_l6Dec.f k a0_2).bind fun t190 => (if (((a0_0 ++ (⟨#[32]⟩ : ByteArray)) ++ t189) ++ (⟨#[32]⟩ : ByteArray)).size + t190.size ≤ 9223372036854775807 then (some ((((a0_0 ++ (⟨#[32]⟩ : ByteArray)) ++ t189) ++ (⟨#[32]⟩ : ByteArray)) ++ t190)) else (none))) else (none)) else (some ((a0_0 ++ (⟨#[32]⟩ : ByteArray)) ++ t189))) else (none))) else (none)) else (if bt184.2.2.1 > 0 then (if a0_0.size + 1 ≤ 9223372036854775807 then ((spec_l6Dec.f k a0_2).bind fun t191 => (if (a0_0 ++ (⟨#[32]⟩ : ByteArray)).size + t191.size ≤ 9223372036854775807 then (some ((a0_0 ++ (⟨#[32]⟩ : ByteArray)) ++ t191)) else (none))) else (none)) else (some a0_0)))) = some r:=by rw [if_pos rfl] at H;exact H
  clear H
  have H:=H1
  clear H1
  replace H:=Option.bind_eq_some_iff.mp H
  obtain ⟨⟨t184,t185,t186,t187⟩,A40,H⟩:=H
  replace H : (if t185 > 0 then (if a0_0.size + 1 ≤ 9223372036854775807 then ((spec_l6Dec.f k a0_1).bind fun t189 => (if (a0_0 ++ (⟨#[32]⟩ : ByteArray)).size + t189.size ≤ 9223372036854775807 then (if t186 > 0 then (if ((a0_0 ++ (⟨#[32]⟩ : ByteArray)) ++ t189).size + 1 ≤ 9223372036854775807 then ((spec_l6Dec.f k a0_2).bind fun t190 => (if (((a0_0 ++ (⟨#[32]⟩ : ByteArray)) ++ t189) ++ (⟨#[32]⟩ : ByteArray)).size + t190.size ≤ 9223372036854775807 then (some ((((a0_0 ++ (⟨#[32]⟩ : ByteArray)) ++ t189) ++ (⟨#[32]⟩ : ByteArray)) ++ t190)) else (none))) else (none)) else (some ((a0_0 ++ (⟨#[32]⟩ : ByteArray)) ++ t189))) else (none))) else (none)) else (if t186 > 0 then (if a0_0.size + 1 ≤ 9223372036854775807 then ((spec_l6Dec.f k a0_2).bind fun t191 => (if (a0_0 ++ (⟨#[32]⟩ : ByteArray)).size + t191.size ≤ 9223372036854775807 then (some ((a0_0 ++ (⟨#[32]⟩ : ByteArray)) ++ t191)) else (none))) else (none)) else (some a0_0))) = some r:=H
  have A4:=Aside0.mk A40
  clear A40
  by_cases c5 : t185 > 0
  ·rw [if_pos c5] at H
   have c5b0 : decide (0 < t185) = true:=decide_eq_true c5
   clear c5
   by_cases c6 : a0_0.size + 1 ≤ 9223372036854775807
   ·rw [if_pos c6] at H
    have c6b0:=eq_true c6
    have c6b1 : decide (a0_0.size + 1 ≤ 9223372036854775807) = true:=decide_eq_true c6
    try have c6b2 : (9223372036854775807 < a0_0.size + 1) = False:=eq_false (Nat.not_lt.2 c6)
    replace H:=Option.bind_eq_some_iff.mp H
    obtain ⟨t189,A70,H⟩:=H
    replace H : (if (a0_0 ++ (⟨#[32]⟩ : ByteArray)).size + t189.size ≤ 9223372036854775807 then (if t186 > 0 then (if ((a0_0 ++ (⟨#[32]⟩ : ByteArray)) ++ t189).size + 1 ≤ 9223372036854775807 then ((spec_l6Dec.f k a0_2).bind fun t190 => (if (((a0_0 ++ (⟨#[32]⟩ : ByteArray)) ++ t189) ++ (⟨#[32]⟩ : ByteArray)).size + t190.size ≤ 9223372036854775807 then (some ((((a0_0 ++ (⟨#[32]⟩ : ByteArray)) ++ t189) ++ (⟨#[32]⟩ : ByteArray)) ++ t190)) else (none))) else (none)) else (some ((a0_0 ++ (⟨#[32]⟩ : ByteArray)) ++ t189))) else (none)) = some r:=H
    have A7:=Aside0.mk A70
    clear A70
    by_cases c8 : (a0_0 ++ (⟨#[32]⟩ : ByteArray)).size + t189.size ≤ 9223372036854775807
    ·rw [if_pos c8] at H
     have hzc8_ : (9223372036854775807 < a0_0.size + 1 + t189.size) = False:=eq_false (by have h_:=c8;simp only [ByteArray.size_append] at h_;have h0_ : (⟨#[32]⟩ : ByteArray).size = 1:=rfl;omega)
     have c8b0:=eq_true c8
     have c8b1 : decide ((a0_0 ++ (⟨#[32]⟩ : ByteArray)).size + t189.size ≤ 9223372036854775807) = true:=decide_eq_true c8
     try have c8b2 : (9223372036854775807 < (a0_0 ++ (⟨#[32]⟩ : ByteArray)).size + t189.size) = False:=eq_false (Nat.not_lt.2 c8)
     by_cases c9 : t186 > 0
     ·rw [if_pos c9] at H
      have c9b0 : decide (0 < t186) = true:=decide_eq_true c9
      clear c9
      by_cases c10 : ((a0_0 ++ (⟨#[32]⟩ : ByteArray)) ++ t189).size + 1 ≤ 9223372036854775807
      ·rw [if_pos c10] at H
       have hzc10_ : (9223372036854775807 < a0_0.size + 1 + t189.size + 1) = False:=eq_false (by have h_:=c10;simp only [ByteArray.size_append] at h_;have h0_ : (⟨#[32]⟩ : ByteArray).size = 1:=rfl;omega)
       have c10b0:=eq_true c10
       have c10b1 : decide (((a0_0 ++ (⟨#[32]⟩ : ByteArray)) ++ t189).size + 1 ≤ 9223372036854775807) = true:=decide_eq_true c10
       try have c10b2 : (9223372036854775807 < ((a0_0 ++ (⟨#[32]⟩ : ByteArray)) ++ t189).size + 1) = False:=eq_false (Nat.not_lt.2 c10)
       replace H:=Option.bind_eq_some_iff.mp H
       obtain ⟨t190,A110,H⟩:=H
       replace H : (if (((a0_0 ++ (⟨#[32]⟩ : ByteArray)) ++ t189) ++ (⟨#[32]⟩ : ByteArray)).size + t190.size ≤ 9223372036854775807 then (some ((((a0_0 ++ (⟨#[32]⟩ : ByteArray)) ++ t189) ++ (⟨#[32]⟩ : ByteArray)) ++ t190)) else (none)) = some r:=H
       have A11:=Aside0.mk A110
       clear A110
       by_cases c12 : (((a0_0 ++ (⟨#[32]⟩ : ByteArray)) ++ t189) ++ (⟨#[32]⟩ : ByteArray)).size + t190.size ≤ 9223372036854775807
       ·rw [if_pos c12] at H
        have hzc12_ : (9223372036854775807 < a0_0.size + 1 + t189.size + 1 + t190.size) = False:=eq_false (by have h_:=c12;simp only [ByteArray.size_append] at h_;have h0_ : (⟨#[32]⟩ : ByteArray).size = 1:=rfl;omega)
        have c12b0:=eq_true c12
        have c12b1 : decide ((((a0_0 ++ (⟨#[32]⟩ : ByteArray)) ++ t189) ++ (⟨#[32]⟩ : ByteArray)).size + t190.size ≤ 9223372036854775807) = true:=decide_eq_true c12
        try have c12b2 : (9223372036854775807 < (((a0_0 ++ (⟨#[32]⟩ : ByteArray)) ++ t189) ++ (⟨#[32]⟩ : ByteArray)).size + t190.size) = False:=eq_false (Nat.not_lt.2 c12)
        obtain rfl:=Option.some.inj H
        go_enter Tryd.func22,Tryd.ntmps22
        go_wp2_with (first | ((with_reducible refine gate_dst (N:=1) rfl ?_);refine Up.bx 1 26 #[.string a0_0,.int .i64 a0_1,.int .i64 a0_2] ?_;intro gb182 hg w13 hbox hb;have n0_:=Up.BB HB hb;have n1_:=Aside0.mk (hbox);have n2_:=Up.gw hg HB;have n3_:=Up.gw hg HB;clear HB;have HB:=n0_;have BK182:=n1_;have GW182:=n2_;have GE182:=n3_;clear n0_ n1_ n2_ n3_ hb hbox hg;have hcz14_0:=Up.c0 BK182;have hcz14_1:=Up.c1 BK182;have hcz14_2:=Up.c2 BK182;have hfz14_0:=blk_frozen BK182.out 0;have hfz14_1:=blk_frozen BK182.out 1;have hfz14_2:=blk_frozen BK182.out 2) | ((with_reducible refine gate_callee (f:=12) rfl ?_);refine Up.gl (some 7) Tryd.func12 #[.agg #[.string a0_0,.int .i64 a0_1,.int .i64 a0_2]] ?_;(with_reducible refine (spec_InsOk.calls k a0_0 a0_1 a0_2 true _ A2.out).mono ?_);rintro e w15 ⟨rfl,hb⟩;refine ⟨_,rfl,?_⟩;have n0_:=Up.KB BK182 hb;have n1_:=Aside0.mk (below_step (Up.Bx HB) hb);clear BK182 HB;have BK182:=n0_;have HB:=n1_;clear n0_ n1_;(try clear hb);(try clear hb2);(try clear hk);(try clear hi);have hcz16_0:=Up.c0 BK182;have hcz16_1:=Up.c1 BK182;have hcz16_2:=Up.c2 BK182;have hfz16_0:=blk_frozen BK182.out 0;have hfz16_1:=blk_frozen BK182.out 1;have hfz16_2:=blk_frozen BK182.out 2) | ((with_reducible refine gate_callee (f:=30) rfl ?_);refine Up.gl (some 12) Tryd.func30 #[.string a0_0] ?_;(with_reducible refine (spec_l3Needs.calls k a0_0 t184 t185 t186 t187 _ A4.out).mono ?_);rintro e w17 ⟨rfl,hb⟩;refine ⟨_,rfl,?_⟩;have n0_:=Up.KB BK182 hb;have n1_:=Aside0.mk (below_step (Up.Bx HB) hb);clear BK182 HB;have BK182:=n0_;have HB:=n1_;clear n0_ n1_;(try clear hb);(try clear hb2);(try clear hk);(try clear hi)) | ((with_reducible refine gate_dst (N:=3) rfl ?_);refine Up.bx 3 26 #[.string (⟨#[]⟩ : ByteArray),.int .i64 0,.int .i64 0] ?_;intro gb188 hg w18 hbox hb;have n0_:=Up.KB BK182 hb;have n1_:=Aside0.mk (below_step (Up.Bx HB) hb);have n2_:=Aside0.mk (hbox);have n3_:=Up.gw hg HB;have n4_:=Up.gw hg HB;have n5_:=Up.nl hg BK182;have n6_:=Up.ng hg BK182;clear BK182 HB;have BK182:=n0_;have HB:=n1_;have BK188:=n2_;have GW188:=n3_;have GE188:=n4_;have NB182_188:=n5_;have NB188_182:=n6_;clear n0_ n1_ n2_ n3_ n4_ n5_ n6_ hb hbox hg;have hnb19:=NB188_182.out;have hnc19:=NB182_188.out;have hcz20_0:=Up.c0 BK188;have hcz20_1:=Up.c1 BK188;have hcz20_2:=Up.c2 BK188;have hfz20_0:=blk_frozen BK188.out 0;have hfz20_1:=blk_frozen BK188.out 1;have hfz20_2:=blk_frozen BK188.out 2;have hcz21_0:=Up.c0 BK182;have hcz21_1:=Up.c1 BK182;have hcz21_2:=Up.c2 BK182;have hfz21_0:=blk_frozen BK182.out 0;have hfz21_1:=blk_frozen BK182.out 1;have hfz21_2:=blk_frozen BK182.out 2) | ((with_reducible refine gate_callee (f:=38) rfl ?_);refine Up.gl (some 24) Tryd.func38 #[.int .i64 a0_1] ?_;(with_reducible refine (spec_l6Dec.calls k a0_1 t189 _ A7.out).mono ?_);rintro e w22 ⟨rfl,hb⟩;refine ⟨_,rfl,?_⟩;have n0_:=Aside0.mk (blk_below (g:=gb182) (o:=.cells #[.string a0_0,.int .i64 a0_1,.int .i64 a0_2] 26 (0,0)) (Up.Kx BK182) hb);have n1_:=Aside0.mk (blk_below (g:=gb188) (o:=.cells #[.string t184,.int .i64 t185,.int .i64 t186] 26 (0,0)) (Up.Kx BK188) hb);have n2_:=Aside0.mk (below_step (Up.Bx HB) hb);clear BK182 BK188 HB;have BK182:=n0_;have BK188:=n1_;have HB:=n2_;clear n0_ n1_ n2_;(try clear hb);(try clear hb2);(try clear hk);(try clear hi);have hcz23_0:=Up.c0 BK188;have hcz23_1:=Up.c1 BK188;have hcz23_2:=Up.c2 BK188;have hfz23_0:=blk_frozen BK188.out 0;have hfz23_1:=blk_frozen BK188.out 1;have hfz23_2:=blk_frozen BK188.out 2;have hcz24_0:=Up.c0 BK182;have hcz24_1:=Up.c1 BK182;have hcz24_2:=Up.c2 BK182;have hfz24_0:=blk_frozen BK182.out 0;have hfz24_1:=blk_frozen BK182.out 1;have hfz24_2:=blk_frozen BK182.out 2) | ((with_reducible refine gate_callee (f:=38) rfl ?_);refine Up.gl (some 33) Tryd.func38 #[.int .i64 a0_2] ?_;(with_reducible refine (spec_l6Dec.calls k a0_2 t190 _ A11.out).mono ?_);rintro e w25 ⟨rfl,hb⟩;refine ⟨_,rfl,?_⟩;have n0_:=Up.KB BK182 hb;have n1_:=Up.KB BK188 hb;have n2_:=Aside0.mk (below_step (Up.Bx HB) hb);clear BK182 BK188 HB;have BK182:=n0_;have BK188:=n1_;have HB:=n2_;clear n0_ n1_ n2_;(try clear hb);(try clear hb2);(try clear hk);(try clear hi)))
        go_ret
        exact Up.e1 (Up.Bx HB)
       ·rw [if_neg c12] at H
        exact absurd H (by simp)
      ·rw [if_neg c10] at H
       exact absurd H (by simp)
     ·rw [if_neg c9] at H
      have c9b0 : decide (0 < t186) = false:=decide_eq_false c9
      clear c9
      obtain rfl:=Option.some.inj H
      go_enter Tryd.func22,Tryd.ntmps22
      go_wp2_with (first | ((with_reducible refine gate_dst (N:=1) rfl ?_);refine Up.bx 1 26 #[.string a0_0,.int .i64 a0_1,.int .i64 a0_2] ?_;intro gb182 hg w26 hbox hb;have n0_:=Up.BB HB hb;have n1_:=Aside0.mk (hbox);have n2_:=Up.gw hg HB;have n3_:=Up.gw hg HB;clear HB;have HB:=n0_;have BK182:=n1_;have GW182:=n2_;have GE182:=n3_;clear n0_ n1_ n2_ n3_ hb hbox hg;have hcz27_0:=Up.c0 BK182;have hcz27_1:=Up.c1 BK182;have hcz27_2:=Up.c2 BK182;have hfz27_0:=blk_frozen BK182.out 0;have hfz27_1:=blk_frozen BK182.out 1;have hfz27_2:=blk_frozen BK182.out 2) | ((with_reducible refine gate_callee (f:=12) rfl ?_);refine Up.gl (some 7) Tryd.func12 #[.agg #[.string a0_0,.int .i64 a0_1,.int .i64 a0_2]] ?_;(with_reducible refine (spec_InsOk.calls k a0_0 a0_1 a0_2 true _ A2.out).mono ?_);rintro e w28 ⟨rfl,hb⟩;refine ⟨_,rfl,?_⟩;have n0_:=Up.KB BK182 hb;have n1_:=Aside0.mk (below_step (Up.Bx HB) hb);clear BK182 HB;have BK182:=n0_;have HB:=n1_;clear n0_ n1_;(try clear hb);(try clear hb2);(try clear hk);(try clear hi);have hcz29_0:=Up.c0 BK182;have hcz29_1:=Up.c1 BK182;have hcz29_2:=Up.c2 BK182;have hfz29_0:=blk_frozen BK182.out 0;have hfz29_1:=blk_frozen BK182.out 1;have hfz29_2:=blk_frozen BK182.out 2) | ((with_reducible refine gate_callee (f:=30) rfl ?_);refine Up.gl (some 12) Tryd.func30 #[.string a0_0] ?_;(with_reducible refine (spec_l3Needs.calls k a0_0 t184 t185 t186 t187 _ A4.out).mono ?_);rintro e w30 ⟨rfl,hb⟩;refine ⟨_,rfl,?_⟩;have n0_:=Up.KB BK182 hb;have n1_:=Aside0.mk (below_step (Up.Bx HB) hb);clear BK182 HB;have BK182:=n0_;have HB:=n1_;clear n0_ n1_;(try clear hb);(try clear hb2);(try clear hk);(try clear hi)) | ((with_reducible refine gate_dst (N:=3) rfl ?_);refine Up.bx 3 26 #[.string (⟨#[]⟩ : ByteArray),.int .i64 0,.int .i64 0] ?_;intro gb188 hg w31 hbox hb;have n0_:=Up.KB BK182 hb;have n1_:=Aside0.mk (below_step (Up.Bx HB) hb);have n2_:=Aside0.mk (hbox);have n3_:=Up.gw hg HB;have n4_:=Up.gw hg HB;have n5_:=Up.nl hg BK182;have n6_:=Up.ng hg BK182;clear BK182 HB;have BK182:=n0_;have HB:=n1_;have BK188:=n2_;have GW188:=n3_;have GE188:=n4_;have NB182_188:=n5_;have NB188_182:=n6_;clear n0_ n1_ n2_ n3_ n4_ n5_ n6_ hb hbox hg;have hnb32:=NB188_182.out;have hnc32:=NB182_188.out;have hcz33_0:=Up.c0 BK188;have hcz33_1:=Up.c1 BK188;have hcz33_2:=Up.c2 BK188;have hfz33_0:=blk_frozen BK188.out 0;have hfz33_1:=blk_frozen BK188.out 1;have hfz33_2:=blk_frozen BK188.out 2;have hcz34_0:=Up.c0 BK182;have hcz34_1:=Up.c1 BK182;have hcz34_2:=Up.c2 BK182;have hfz34_0:=blk_frozen BK182.out 0;have hfz34_1:=blk_frozen BK182.out 1;have hfz34_2:=blk_frozen BK182.out 2) | ((with_reducible refine gate_callee (f:=38) rfl ?_);refine Up.gl (some 24) Tryd.func38 #[.int .i64 a0_1] ?_;(with_reducible refine (spec_l6Dec.calls k a0_1 t189 _ A7.out).mono ?_);rintro e w35 ⟨rfl,hb⟩;refine ⟨_,rfl,?_⟩;have n0_:=Aside0.mk (blk_below (g:=gb182) (o:=.cells #[.string a0_0,.int .i64 a0_1,.int .i64 a0_2] 26 (0,0)) (Up.Kx BK182) hb);have n1_:=Aside0.mk (blk_below (g:=gb188) (o:=.cells #[.string t184,.int .i64 t185,.int .i64 t186] 26 (0,0)) (Up.Kx BK188) hb);have n2_:=Aside0.mk (below_step (Up.Bx HB) hb);clear BK182 BK188 HB;have BK182:=n0_;have BK188:=n1_;have HB:=n2_;clear n0_ n1_ n2_;(try clear hb);(try clear hb2);(try clear hk);(try clear hi);have hcz36_0:=Up.c0 BK188;have hcz36_1:=Up.c1 BK188;have hcz36_2:=Up.c2 BK188;have hfz36_0:=blk_frozen BK188.out 0;have hfz36_1:=blk_frozen BK188.out 1;have hfz36_2:=blk_frozen BK188.out 2))
      go_ret
      exact Up.e1 (Up.Bx HB)
    ·rw [if_neg c8] at H
     exact absurd H (by simp)
   ·rw [if_neg c6] at H
    exact absurd H (by simp)
  ·rw [if_neg c5] at H
   have c5b0 : decide (0 < t185) = false:=decide_eq_false c5
   clear c5
   by_cases c37 : t186 > 0
   ·rw [if_pos c37] at H
    have c37b0 : decide (0 < t186) = true:=decide_eq_true c37
    clear c37
    by_cases c38 : a0_0.size + 1 ≤ 9223372036854775807
    ·rw [if_pos c38] at H
     have c38b0:=eq_true c38
     have c38b1 : decide (a0_0.size + 1 ≤ 9223372036854775807) = true:=decide_eq_true c38
     try have c38b2 : (9223372036854775807 < a0_0.size + 1) = False:=eq_false (Nat.not_lt.2 c38)
     replace H:=Option.bind_eq_some_iff.mp H
     obtain ⟨t191,A390,H⟩:=H
     replace H : (if (a0_0 ++ (⟨#[32]⟩ : ByteArray)).size + t191.size ≤ 9223372036854775807 then (some ((a0_0 ++ (⟨#[32]⟩ : ByteArray)) ++ t191)) else (none)) = some r:=H
     have A39:=Aside0.mk A390
     clear A390
     by_cases c40 : (a0_0 ++ (⟨#[32]⟩ : ByteArray)).size + t191.size ≤ 9223372036854775807
     ·rw [if_pos c40] at H
      have hzc40_ : (9223372036854775807 < a0_0.size + 1 + t191.size) = False:=eq_false (by have h_:=c40;simp only [ByteArray.size_append] at h_;have h0_ : (⟨#[32]⟩ : ByteArray).size = 1:=rfl;omega)
      have c40b0:=eq_true c40
      have c40b1 : decide ((a0_0 ++ (⟨#[32]⟩ : ByteArray)).size + t191.size ≤ 9223372036854775807) = true:=decide_eq_true c40
      try have c40b2 : (9223372036854775807 < (a0_0 ++ (⟨#[32]⟩ : ByteArray)).size + t191.size) = False:=eq_false (Nat.not_lt.2 c40)
      obtain rfl:=Option.some.inj H
      go_enter Tryd.func22,Tryd.ntmps22
      go_wp2_with (first | ((with_reducible refine gate_dst (N:=1) rfl ?_);refine Up.bx 1 26 #[.string a0_0,.int .i64 a0_1,.int .i64 a0_2] ?_;intro gb182 hg w41 hbox hb;have n0_:=Up.BB HB hb;have n1_:=Aside0.mk (hbox);have n2_:=Up.gw hg HB;have n3_:=Up.gw hg HB;clear HB;have HB:=n0_;have BK182:=n1_;have GW182:=n2_;have GE182:=n3_;clear n0_ n1_ n2_ n3_ hb hbox hg;have hcz42_0:=Up.c0 BK182;have hcz42_1:=Up.c1 BK182;have hcz42_2:=Up.c2 BK182;have hfz42_0:=blk_frozen BK182.out 0;have hfz42_1:=blk_frozen BK182.out 1;have hfz42_2:=blk_frozen BK182.out 2) | ((with_reducible refine gate_callee (f:=12) rfl ?_);refine Up.gl (some 7) Tryd.func12 #[.agg #[.string a0_0,.int .i64 a0_1,.int .i64 a0_2]] ?_;(with_reducible refine (spec_InsOk.calls k a0_0 a0_1 a0_2 true _ A2.out).mono ?_);rintro e w43 ⟨rfl,hb⟩;refine ⟨_,rfl,?_⟩;have n0_:=Up.KB BK182 hb;have n1_:=Aside0.mk (below_step (Up.Bx HB) hb);clear BK182 HB;have BK182:=n0_;have HB:=n1_;clear n0_ n1_;(try clear hb);(try clear hb2);(try clear hk);(try clear hi);have hcz44_0:=Up.c0 BK182;have hcz44_1:=Up.c1 BK182;have hcz44_2:=Up.c2 BK182;have hfz44_0:=blk_frozen BK182.out 0;have hfz44_1:=blk_frozen BK182.out 1;have hfz44_2:=blk_frozen BK182.out 2) | ((with_reducible refine gate_callee (f:=30) rfl ?_);refine Up.gl (some 12) Tryd.func30 #[.string a0_0] ?_;(with_reducible refine (spec_l3Needs.calls k a0_0 t184 t185 t186 t187 _ A4.out).mono ?_);rintro e w45 ⟨rfl,hb⟩;refine ⟨_,rfl,?_⟩;have n0_:=Up.KB BK182 hb;have n1_:=Aside0.mk (below_step (Up.Bx HB) hb);clear BK182 HB;have BK182:=n0_;have HB:=n1_;clear n0_ n1_;(try clear hb);(try clear hb2);(try clear hk);(try clear hi)) | ((with_reducible refine gate_dst (N:=3) rfl ?_);refine Up.bx 3 26 #[.string (⟨#[]⟩ : ByteArray),.int .i64 0,.int .i64 0] ?_;intro gb188 hg w46 hbox hb;have n0_:=Up.KB BK182 hb;have n1_:=Aside0.mk (below_step (Up.Bx HB) hb);have n2_:=Aside0.mk (hbox);have n3_:=Up.gw hg HB;have n4_:=Up.gw hg HB;have n5_:=Up.nl hg BK182;have n6_:=Up.ng hg BK182;clear BK182 HB;have BK182:=n0_;have HB:=n1_;have BK188:=n2_;have GW188:=n3_;have GE188:=n4_;have NB182_188:=n5_;have NB188_182:=n6_;clear n0_ n1_ n2_ n3_ n4_ n5_ n6_ hb hbox hg;have hnb47:=NB188_182.out;have hnc47:=NB182_188.out;have hcz48_0:=Up.c0 BK188;have hcz48_1:=Up.c1 BK188;have hcz48_2:=Up.c2 BK188;have hfz48_0:=blk_frozen BK188.out 0;have hfz48_1:=blk_frozen BK188.out 1;have hfz48_2:=blk_frozen BK188.out 2;have hcz49_0:=Up.c0 BK182;have hcz49_1:=Up.c1 BK182;have hcz49_2:=Up.c2 BK182;have hfz49_0:=blk_frozen BK182.out 0;have hfz49_1:=blk_frozen BK182.out 1;have hfz49_2:=blk_frozen BK182.out 2) | ((with_reducible refine gate_callee (f:=38) rfl ?_);refine Up.gl (some 33) Tryd.func38 #[.int .i64 a0_2] ?_;(with_reducible refine (spec_l6Dec.calls k a0_2 t191 _ A39.out).mono ?_);rintro e w50 ⟨rfl,hb⟩;refine ⟨_,rfl,?_⟩;have n0_:=Aside0.mk (blk_below (g:=gb182) (o:=.cells #[.string a0_0,.int .i64 a0_1,.int .i64 a0_2] 26 (0,0)) (Up.Kx BK182) hb);have n1_:=Aside0.mk (blk_below (g:=gb188) (o:=.cells #[.string t184,.int .i64 t185,.int .i64 t186] 26 (0,0)) (Up.Kx BK188) hb);have n2_:=Aside0.mk (below_step (Up.Bx HB) hb);clear BK182 BK188 HB;have BK182:=n0_;have BK188:=n1_;have HB:=n2_;clear n0_ n1_ n2_;(try clear hb);(try clear hb2);(try clear hk);(try clear hi)))
      go_ret
      exact Up.e1 (Up.Bx HB)
     ·rw [if_neg c40] at H
      exact absurd H (by simp)
    ·rw [if_neg c38] at H
     exact absurd H (by simp)
   ·rw [if_neg c37] at H
    have c37b0 : decide (0 < t186) = false:=decide_eq_false c37
    clear c37
    obtain rfl:=Option.some.inj H
    go_enter Tryd.func22,Tryd.ntmps22
    go_wp2_with (first | ((with_reducible refine gate_dst (N:=1) rfl ?_);refine Up.bx 1 26 #[.string a0_0,.int .i64 a0_1,.int .i64 a0_2] ?_;intro gb182 hg w51 hbox hb;have n0_:=Up.BB HB hb;have n1_:=Aside0.mk (hbox);have n2_:=Up.gw hg HB;have n3_:=Up.gw hg HB;clear HB;have HB:=n0_;have BK182:=n1_;have GW182:=n2_;have GE182:=n3_;clear n0_ n1_ n2_ n3_ hb hbox hg;have hcz52_0:=Up.c0 BK182;have hcz52_1:=Up.c1 BK182;have hcz52_2:=Up.c2 BK182;have hfz52_0:=blk_frozen BK182.out 0;have hfz52_1:=blk_frozen BK182.out 1;have hfz52_2:=blk_frozen BK182.out 2) | ((with_reducible refine gate_callee (f:=12) rfl ?_);refine Up.gl (some 7) Tryd.func12 #[.agg #[.string a0_0,.int .i64 a0_1,.int .i64 a0_2]] ?_;(with_reducible refine (spec_InsOk.calls k a0_0 a0_1 a0_2 true _ A2.out).mono ?_);rintro e w53 ⟨rfl,hb⟩;refine ⟨_,rfl,?_⟩;have n0_:=Up.KB BK182 hb;have n1_:=Aside0.mk (below_step (Up.Bx HB) hb);clear BK182 HB;have BK182:=n0_;have HB:=n1_;clear n0_ n1_;(try clear hb);(try clear hb2);(try clear hk);(try clear hi);have hcz54_0:=Up.c0 BK182;have hcz54_1:=Up.c1 BK182;have hcz54_2:=Up.c2 BK182;have hfz54_0:=blk_frozen BK182.out 0;have hfz54_1:=blk_frozen BK182.out 1;have hfz54_2:=blk_frozen BK182.out 2) | ((with_reducible refine gate_callee (f:=30) rfl ?_);refine Up.gl (some 12) Tryd.func30 #[.string a0_0] ?_;(with_reducible refine (spec_l3Needs.calls k a0_0 t184 t185 t186 t187 _ A4.out).mono ?_);rintro e w55 ⟨rfl,hb⟩;refine ⟨_,rfl,?_⟩;have n0_:=Up.KB BK182 hb;have n1_:=Aside0.mk (below_step (Up.Bx HB) hb);clear BK182 HB;have BK182:=n0_;have HB:=n1_;clear n0_ n1_;(try clear hb);(try clear hb2);(try clear hk);(try clear hi)) | ((with_reducible refine gate_dst (N:=3) rfl ?_);refine Up.bx 3 26 #[.string (⟨#[]⟩ : ByteArray),.int .i64 0,.int .i64 0] ?_;intro gb188 hg w56 hbox hb;have n0_:=Up.KB BK182 hb;have n1_:=Aside0.mk (below_step (Up.Bx HB) hb);have n2_:=Aside0.mk (hbox);have n3_:=Up.gw hg HB;have n4_:=Up.gw hg HB;have n5_:=Up.nl hg BK182;have n6_:=Up.ng hg BK182;clear BK182 HB;have BK182:=n0_;have HB:=n1_;have BK188:=n2_;have GW188:=n3_;have GE188:=n4_;have NB182_188:=n5_;have NB188_182:=n6_;clear n0_ n1_ n2_ n3_ n4_ n5_ n6_ hb hbox hg;have hnb57:=NB188_182.out;have hnc57:=NB182_188.out;have hcz58_0:=Up.c0 BK188;have hcz58_1:=Up.c1 BK188;have hcz58_2:=Up.c2 BK188;have hfz58_0:=blk_frozen BK188.out 0;have hfz58_1:=blk_frozen BK188.out 1;have hfz58_2:=blk_frozen BK188.out 2;have hcz59_0:=Up.c0 BK182;have hcz59_1:=Up.c1 BK182;have hcz59_2:=Up.c2 BK182;have hfz59_0:=blk_frozen BK182.out 0;have hfz59_1:=blk_frozen BK182.out 1;have hfz59_2:=blk_frozen BK182.out 2))
    go_ret
    exact Up.e1 (Up.Bx HB)
 ·replace c3:=Bool.eq_false_iff.mpr c3
  subst c3
  have H1 : (some (⟨#[]⟩ : ByteArray)) = some r:=by rw [if_neg (show ¬ (false = true) by decide)] at H;exact H
  clear H
  have H:=H1
  clear H1
  obtain rfl:=Option.some.inj H
  go_enter Tryd.func22,Tryd.ntmps22
  go_wp2_with (first | ((with_reducible refine gate_dst (N:=1) rfl ?_);refine Up.bx 1 26 #[.string a0_0,.int .i64 a0_1,.int .i64 a0_2] ?_;intro gb182 hg w60 hbox hb;have n0_:=Up.BB HB hb;have n1_:=Aside0.mk (hbox);have n2_:=Up.gw hg HB;have n3_:=Up.gw hg HB;clear HB;have HB:=n0_;have BK182:=n1_;have GW182:=n2_;have GE182:=n3_;clear n0_ n1_ n2_ n3_ hb hbox hg;have hcz61_0:=Up.c0 BK182;have hcz61_1:=Up.c1 BK182;have hcz61_2:=Up.c2 BK182;have hfz61_0:=blk_frozen BK182.out 0;have hfz61_1:=blk_frozen BK182.out 1;have hfz61_2:=blk_frozen BK182.out 2) | ((with_reducible refine gate_callee (f:=12) rfl ?_);refine Up.gl (some 7) Tryd.func12 #[.agg #[.string a0_0,.int .i64 a0_1,.int .i64 a0_2]] ?_;(with_reducible refine (spec_InsOk.calls k a0_0 a0_1 a0_2 false _ A2.out).mono ?_);rintro e w62 ⟨rfl,hb⟩;refine ⟨_,rfl,?_⟩;have n0_:=Up.KB BK182 hb;have n1_:=Aside0.mk (below_step (Up.Bx HB) hb);clear BK182 HB;have BK182:=n0_;have HB:=n1_;clear n0_ n1_;(try clear hb);(try clear hb2);(try clear hk);(try clear hi)))
  go_ret
  exact Up.e1 (Up.Bx HB)

/-! ### impl_insForm_many: function 48 -/
def impl_insForm_many.f (a0_0 : ByteArray) (a0_1 : Int) (a0_2 : Int) : Option (Int):=if a0_1 = 0 then (some 0) else (if a0_2 = 0 then (some 1) else (some 2))
set_option maxHeartbeats 8000000 in
set_option maxRecDepth 100000 in
theorem impl_insForm_many.calls (a0_0 : ByteArray) (a0_1 : Int) (a0_2 : Int) (r : Int) (w : World) (h : impl_insForm_many.f a0_0 a0_1 a0_2 = some r) :
  Calls Tryd.prog 48 #[.agg #[.string a0_0,.int .i64 a0_1,.int .i64 a0_2]] w fun e w' => e = .returned (.int .i64 r) ∧ Below w.heap.size w w':=by
 have hu46:=Tryd.underlying46
 have HB:=Aside0.mk (Below.refl w.heap.size w)
 have H : (if a0_1 = 0 then (some 0) else (if a0_2 = 0 then (some 1) else (some 2))) = some r:=h
 clear h
 by_cases c2 : a0_1 = 0
 ·rw [if_pos c2] at H
  have c2b0 : (a0_1 == 0) = true:=beq_iff_eq.mpr c2
  have c2b1 : (a0_1 != 0) = false:=bne_eq_false_iff_eq.mpr c2
  clear c2
  obtain rfl:=Option.some.inj H
  go_enter Tryd.func48,Tryd.ntmps48
  go_wp2_with (first | ((with_reducible refine gate_dst (N:=1) rfl ?_);refine Up.bx 1 46 #[.string a0_0,.int .i64 a0_1,.int .i64 a0_2] ?_;intro gb192 hg w3 hbox hb;have n0_:=Up.BB HB hb;have n1_:=Aside0.mk (hbox);have n2_:=Up.gw hg HB;have n3_:=Up.gw hg HB;clear HB;have HB:=n0_;have BK192:=n1_;have GW192:=n2_;have GE192:=n3_;clear n0_ n1_ n2_ n3_ hb hbox hg;have hcz4_0:=Up.c0 BK192;have hcz4_1:=Up.c1 BK192;have hcz4_2:=Up.c2 BK192;have hfz4_0:=blk_frozen BK192.out 0;have hfz4_1:=blk_frozen BK192.out 1;have hfz4_2:=blk_frozen BK192.out 2))
  go_ret
  exact Up.e1 (Up.Bx HB)
 ·rw [if_neg c2] at H
  have c2b0 : (a0_1 == 0) = false:=beq_eq_false_iff_ne.mpr c2
  have c2b1 : (a0_1 != 0) = true:=bne_iff_ne.mpr c2
  by_cases c5 : a0_2 = 0
  ·rw [if_pos c5] at H
   have c5b0 : (a0_2 == 0) = true:=beq_iff_eq.mpr c5
   have c5b1 : (a0_2 != 0) = false:=bne_eq_false_iff_eq.mpr c5
   clear c5
   obtain rfl:=Option.some.inj H
   go_enter Tryd.func48,Tryd.ntmps48
   go_wp2_with (first | ((with_reducible refine gate_dst (N:=1) rfl ?_);refine Up.bx 1 46 #[.string a0_0,.int .i64 a0_1,.int .i64 a0_2] ?_;intro gb192 hg w6 hbox hb;have n0_:=Up.BB HB hb;have n1_:=Aside0.mk (hbox);have n2_:=Up.gw hg HB;have n3_:=Up.gw hg HB;clear HB;have HB:=n0_;have BK192:=n1_;have GW192:=n2_;have GE192:=n3_;clear n0_ n1_ n2_ n3_ hb hbox hg;have hcz7_0:=Up.c0 BK192;have hcz7_1:=Up.c1 BK192;have hcz7_2:=Up.c2 BK192;have hfz7_0:=blk_frozen BK192.out 0;have hfz7_1:=blk_frozen BK192.out 1;have hfz7_2:=blk_frozen BK192.out 2))
   go_ret
   exact Up.e1 (Up.Bx HB)
  ·rw [if_neg c5] at H
   have c5b0 : (a0_2 == 0) = false:=beq_eq_false_iff_ne.mpr c5
   have c5b1 : (a0_2 != 0) = true:=bne_iff_ne.mpr c5
   obtain rfl:=Option.some.inj H
   go_enter Tryd.func48,Tryd.ntmps48
   go_wp2_with (first | ((with_reducible refine gate_dst (N:=1) rfl ?_);refine Up.bx 1 46 #[.string a0_0,.int .i64 a0_1,.int .i64 a0_2] ?_;intro gb192 hg w8 hbox hb;have n0_:=Up.BB HB hb;have n1_:=Aside0.mk (hbox);have n2_:=Up.gw hg HB;have n3_:=Up.gw hg HB;clear HB;have HB:=n0_;have BK192:=n1_;have GW192:=n2_;have GE192:=n3_;clear n0_ n1_ n2_ n3_ hb hbox hg;have hcz9_0:=Up.c0 BK192;have hcz9_1:=Up.c1 BK192;have hcz9_2:=Up.c2 BK192;have hfz9_0:=blk_frozen BK192.out 0;have hfz9_1:=blk_frozen BK192.out 1;have hfz9_2:=blk_frozen BK192.out 2))
   go_ret
   exact Up.e1 (Up.Bx HB)

/-! ### strconv_Itoa: function 52 -/

def strconv_Itoa.f (n : Int) : Option ByteArray := if -9223372036854775808 ≤ n ∧ n ≤ 9223372036854775807 then some ⟨(Lib.itoa n).toArray⟩ else none
theorem below_grown_ (w : World) (k : Nat) (os : Array Obj) : Below w.heap.size w (Sort.grow (w.drewN k) os) :=
  ⟨rfl, rfl, rfl, by simp [Sort.grow, World.drewN], fun i hi => by simp [Sort.grow, World.drewN, Array.getElem?_append_left hi]⟩
theorem strconv_Itoa.calls (a0 : Int) (r : ByteArray) (w : World) (hT_ : Tab w) (h : strconv_Itoa.f a0 = some r) :
    Calls Tryd.prog 52 #[.int .i64 a0] w fun e w' => e = .returned (.string r) ∧ Below w.heap.size w w' := by
  unfold strconv_Itoa.f at h
  split at h
  · rename_i hc
    obtain rfl := Option.some.inj h
    refine (Tryd.strconv_Itoa a0 hc.1 hc.2 w hT_.f2).mono ?_
    rintro e w' ⟨rfl, k, os, rfl⟩
    exact ⟨rfl, below_grown_ _ k os⟩
  · cases h

/-! ### impl_insText: function 39 -/
def impl_insText.j0 : Nat → ByteArray → ByteArray → Int → Int → ByteArray → Int → Int → Option (ByteArray)
 | 0,_,_,_,_,_,_,_ => none
 | k + 1,x5,x194000,x194001,x194002,x199000,x199001,x199002 => (impl_insForm_many.f x199000 x199001 x199002).bind fun t201 => (if t201 > 1 then ((strconv_Itoa.f x194002).bind fun t202 => (if 1 + t202.size ≤ 9223372036854775807 then (if x5.size + ((⟨#[32]⟩ : ByteArray) ++ t202).size ≤ 9223372036854775807 then (some (x5 ++ ((⟨#[32]⟩ : ByteArray) ++ t202))) else (none)) else (none))) else (some x5))
def impl_insText.f (k : Nat) (a0_0 : ByteArray) (a0_1 : Int) (a0_2 : Int) : Option (ByteArray):=(impl_formOf.f k a0_0).bind fun bt194 => ((impl_insForm_many.f bt194.1 bt194.2.1 bt194.2.2.1).bind fun t199 => (if t199 > 0 then ((strconv_Itoa.f a0_1).bind fun t200 => (if 1 + t200.size ≤ 9223372036854775807 then (if a0_0.size + ((⟨#[32]⟩ : ByteArray) ++ t200).size ≤ 9223372036854775807 then (impl_insText.j0 k (a0_0 ++ ((⟨#[32]⟩ : ByteArray) ++ t200)) a0_0 a0_1 a0_2 bt194.1 bt194.2.1 bt194.2.2.1) else (none)) else (none))) else (impl_insText.j0 k a0_0 a0_0 a0_1 a0_2 bt194.1 bt194.2.1 bt194.2.2.1)))
theorem impl_insText.mono_l : ∀ k,(∀ y0 y1 y2 y3 y4 y5 y6,LeO (impl_insText.j0 k y0 y1 y2 y3 y4 y5 y6) (impl_insText.j0 (k + 1) y0 y1 y2 y3 y4 y5 y6))
 | 0 => fun _ _ _ _ _ _ _ r h => by simp [impl_insText.j0] at h
 | k + 1 => by
  have ih0:=impl_insText.mono_l k
  ·intro y0 y1 y2 y3 y4 y5 y6
   unfold impl_insText.j0
   repeat' first
   | (with_reducible exact ih0 _ _ _ _ _ _ _)
   | (with_reducible exact impl_formOf.mono _ _)
   | (with_reducible exact LeO.refl _)
   | (with_reducible exact LeO.none _)
   | (with_reducible refine LeO.ite ?_ ?_)
   | (with_reducible refine LeO.bind ?_ (fun _ => ?_))
   | exact ih0 _ _ _ _ _ _ _
   | exact impl_formOf.mono _ _
   | exact LeO.none _
   | refine LeO.ite ?_ ?_
   | refine LeO.bind ?_ (fun _ => ?_)
theorem impl_insText.mono : ∀ a0 a1 a2 k,LeO (impl_insText.f k a0 a1 a2) (impl_insText.f (k + 1) a0 a1 a2):=by
 intro a0 a1 a2 k
 have ih0:=impl_insText.mono_l k
 unfold impl_insText.f
 repeat' first
   | (with_reducible exact ih0 _ _ _ _ _ _ _)
   | (with_reducible exact impl_formOf.mono _ _)
   | (with_reducible exact LeO.refl _)
   | (with_reducible exact LeO.none _)
   | (with_reducible refine LeO.ite ?_ ?_)
   | (with_reducible refine LeO.bind ?_ (fun _ => ?_))
   | exact ih0 _ _ _ _ _ _ _
   | exact impl_formOf.mono _ _
   | exact LeO.none _
   | refine LeO.ite ?_ ?_
   | refine LeO.bind ?_ (fun _ => ?_)
set_option maxHeartbeats 8000000 in
set_option maxRecDepth 100000 in
theorem impl_insText.calls (k : Nat) (a0_0 : ByteArray) (a0_1 : Int) (a0_2 : Int) (r : ByteArray) (w : World) (hT_ : Tab w) (h : impl_insText.f k a0_0 a0_1 a0_2 = some r) :
  Calls Tryd.prog 39 #[.agg #[.string a0_0,.int .i64 a0_1,.int .i64 a0_2]] w fun e w' => e = .returned (.string r) ∧ Below w.heap.size w w':=by
 have hu26:=Tryd.underlying26
 have hu46:=Tryd.underlying46
 have HB:=Aside0.mk (Below.refl w.heap.size w)
 have H : ((impl_formOf.f k a0_0).bind fun bt194 => ((impl_insForm_many.f bt194.1 bt194.2.1 bt194.2.2.1).bind fun t199 => (if t199 > 0 then ((strconv_Itoa.f a0_1).bind fun t200 => (if 1 + t200.size ≤ 9223372036854775807 then (if a0_0.size + ((⟨#[32]⟩ : ByteArray) ++ t200).size ≤ 9223372036854775807 then (impl_insText.j0 k (a0_0 ++ ((⟨#[32]⟩ : ByteArray) ++ t200)) a0_0 a0_1 a0_2 bt194.1 bt194.2.1 bt194.2.2.1) else (none)) else (none))) else (impl_insText.j0 k a0_0 a0_0 a0_1 a0_2 bt194.1 bt194.2.1 bt194.2.2.1)))) = some r:=h
 clear h
 replace H:=Option.bind_eq_some_iff.mp H
 obtain ⟨⟨t194,t195,t196,t197⟩,A20,H⟩:=H
 replace H : ((impl_insForm_many.f t194 t195 t196).bind fun t199 => (if t199 > 0 then ((strconv_Itoa.f a0_1).bind fun t200 => (if 1 + t200.size ≤ 9223372036854775807 then (if a0_0.size + ((⟨#[32]⟩ : ByteArray) ++ t200).size ≤ 9223372036854775807 then (impl_insText.j0 k (a0_0 ++ ((⟨#[32]⟩ : ByteArray) ++ t200)) a0_0 a0_1 a0_2 t194 t195 t196) else (none)) else (none))) else (impl_insText.j0 k a0_0 a0_0 a0_1 a0_2 t194 t195 t196))) = some r:=H
 have A2:=Aside0.mk A20
 clear A20
 replace H:=Option.bind_eq_some_iff.mp H
 obtain ⟨t199,A30,H⟩:=H
 replace H : (if t199 > 0 then ((strconv_Itoa.f a0_1).bind fun t200 => (if 1 + t200.size ≤ 9223372036854775807 then (if a0_0.size + ((⟨#[32]⟩ : ByteArray) ++ t200).size ≤ 9223372036854775807 then (impl_insText.j0 k (a0_0 ++ ((⟨#[32]⟩ : ByteArray) ++ t200)) a0_0 a0_1 a0_2 t194 t195 t196) else (none)) else (none))) else (impl_insText.j0 k a0_0 a0_0 a0_1 a0_2 t194 t195 t196)) = some r:=H
 have A3:=Aside0.mk A30
 clear A30
 have HC4:=Aside0.mk H
 clear H
 go_enter Tryd.func39,Tryd.ntmps39
 go_upto_if 16 with (first | ((with_reducible refine gate_dst (N:=1) rfl ?_);refine Up.bx 1 26 #[.string a0_0,.int .i64 a0_1,.int .i64 a0_2] ?_;intro gb193 hg w5 hbox hb;have n0_:=Up.BB HB hb;have n1_:=Aside0.mk (hbox);have n2_:=Up.gw hg HB;have n3_:=Up.gw hg HB;clear HB;have HB:=n0_;have BK193:=n1_;have GW193:=n2_;have GE193:=n3_;clear n0_ n1_ n2_ n3_ hb hbox hg;have hcz6_0:=Up.c0 BK193;have hcz6_1:=Up.c1 BK193;have hcz6_2:=Up.c2 BK193;have hfz6_0:=blk_frozen BK193.out 0;have hfz6_1:=blk_frozen BK193.out 1;have hfz6_2:=blk_frozen BK193.out 2) | ((with_reducible refine gate_callee (f:=32) rfl ?_);refine Up.gl (some 9) Tryd.func32 #[.string a0_0] ?_;(with_reducible refine (impl_formOf.calls (hT_:=?tab1) k a0_0 t194 t195 t196 t197 _ A2.out).mono ?_);(case tab1 => exact hT_.below (Up.Bx HB));rintro e w7 ⟨rfl,hb⟩;refine ⟨_,rfl,?_⟩;have n0_:=Up.KB BK193 hb;have n1_:=Aside0.mk (below_step (Up.Bx HB) hb);clear BK193 HB;have BK193:=n0_;have HB:=n1_;clear n0_ n1_;(try clear hb);(try clear hb2);(try clear hk);(try clear hi)) | ((with_reducible refine gate_dst (N:=3) rfl ?_);refine Up.bx 3 46 #[.string (⟨#[]⟩ : ByteArray),.int .i64 0,.int .i64 0] ?_;intro gb198 hg w8 hbox hb;have n0_:=Up.KB BK193 hb;have n1_:=Aside0.mk (below_step (Up.Bx HB) hb);have n2_:=Aside0.mk (hbox);have n3_:=Up.gw hg HB;have n4_:=Up.gw hg HB;have n5_:=Up.nl hg BK193;have n6_:=Up.ng hg BK193;clear BK193 HB;have BK193:=n0_;have HB:=n1_;have BK198:=n2_;have GW198:=n3_;have GE198:=n4_;have NB193_198:=n5_;have NB198_193:=n6_;clear n0_ n1_ n2_ n3_ n4_ n5_ n6_ hb hbox hg;have hnb9:=NB198_193.out;have hnc9:=NB193_198.out;have hcz10_0:=Up.c0 BK198;have hcz10_1:=Up.c1 BK198;have hcz10_2:=Up.c2 BK198;have hfz10_0:=blk_frozen BK198.out 0;have hfz10_1:=blk_frozen BK198.out 1;have hfz10_2:=blk_frozen BK198.out 2;have hcz11_0:=Up.c0 BK193;have hcz11_1:=Up.c1 BK193;have hcz11_2:=Up.c2 BK193;have hfz11_0:=blk_frozen BK193.out 0;have hfz11_1:=blk_frozen BK193.out 1;have hfz11_2:=blk_frozen BK193.out 2) | ((with_reducible refine gate_callee (f:=48) rfl ?_);refine Up.gl (some 15) Tryd.func48 #[.agg #[.string t194,.int .i64 t195,.int .i64 t196]] ?_;(with_reducible refine (impl_insForm_many.calls t194 t195 t196 t199 _ A3.out).mono ?_);rintro e w12 ⟨rfl,hb⟩;refine ⟨_,rfl,?_⟩;have n0_:=Aside0.mk (blk_below (g:=gb193) (o:=.cells #[.string a0_0,.int .i64 a0_1,.int .i64 a0_2] 26 (0,0)) (Up.Kx BK193) hb);have n1_:=Aside0.mk (blk_below (g:=gb198) (o:=.cells #[.string t194,.int .i64 t195,.int .i64 t196] 46 (0,0)) (Up.Kx BK198) hb);have n2_:=Aside0.mk (below_step (Up.Bx HB) hb);clear BK193 BK198 HB;have BK193:=n0_;have BK198:=n1_;have HB:=n2_;clear n0_ n1_ n2_;(try clear hb);(try clear hb2);(try clear hk);(try clear hi)))
 (try simp only [Act.put,List.setIfInBounds_toArray,List.set_cons_zero,List.set_cons_succ])
 go_cut [5] (fun v5 wc => ∃ (kq : Nat) (x5_3 : ByteArray),v5 = .string x5_3 ∧ Aside0 (impl_insText.j0 kq x5_3 a0_0 a0_1 a0_2 t194 t195 t196 = some r) ∧ Aside0 (kq ≤ k) ∧ Aside0 (wc.heap[gb193]? = some (.cells #[.string a0_0,.int .i64 a0_1,.int .i64 a0_2] 26 (0,0))) ∧ Aside0 (wc.heap[gb198]? = some (.cells #[.string t194,.int .i64 t195,.int .i64 t196] 46 (0,0))) ∧ Aside0 (Below w.heap.size w wc))
 case first =>
  have H:=HC4.out
  clear HC4
  by_cases c13 : t199 > 0
  ·rw [if_pos c13] at H
   have c13b0 : decide (0 < t199) = true:=decide_eq_true c13
   clear c13
   (first | rw [c13b0] | (simp only [i64_w,i32_w];rw [c13b0]) | skip)
   replace H:=Option.bind_eq_some_iff.mp H
   obtain ⟨t200,A140,H⟩:=H
   replace H : (if 1 + t200.size ≤ 9223372036854775807 then (if a0_0.size + ((⟨#[32]⟩ : ByteArray) ++ t200).size ≤ 9223372036854775807 then (impl_insText.j0 k (a0_0 ++ ((⟨#[32]⟩ : ByteArray) ++ t200)) a0_0 a0_1 a0_2 t194 t195 t196) else (none)) else (none)) = some r:=H
   have A14:=Aside0.mk A140
   clear A140
   by_cases c15 : 1 + t200.size ≤ 9223372036854775807
   ·rw [if_pos c15] at H
    have c15b0:=eq_true c15
    have c15b1 : decide (1 + t200.size ≤ 9223372036854775807) = true:=decide_eq_true c15
    try have c15b2 : (9223372036854775807 < 1 + t200.size) = False:=eq_false (Nat.not_lt.2 c15)
    by_cases c16 : a0_0.size + ((⟨#[32]⟩ : ByteArray) ++ t200).size ≤ 9223372036854775807
    ·rw [if_pos c16] at H
     have hzc16_ : (9223372036854775807 < a0_0.size + (1 + t200.size)) = False:=eq_false (by have h_:=c16;simp only [ByteArray.size_append] at h_;have h0_ : (⟨#[32]⟩ : ByteArray).size = 1:=rfl;omega)
     have c16b0:=eq_true c16
     have c16b1 : decide (a0_0.size + ((⟨#[32]⟩ : ByteArray) ++ t200).size ≤ 9223372036854775807) = true:=decide_eq_true c16
     try have c16b2 : (9223372036854775807 < a0_0.size + ((⟨#[32]⟩ : ByteArray) ++ t200).size) = False:=eq_false (Nat.not_lt.2 c16)
     have H':=Aside0.mk H
     clear H
     have hnb17:=NB193_198.out
     have hnc17:=NB198_193.out
     have hcz18_0:=Up.c0 BK193
     have hcz18_1:=Up.c1 BK193
     have hcz18_2:=Up.c2 BK193
     have hfz18_0:=blk_frozen BK193.out 0
     have hfz18_1:=blk_frozen BK193.out 1
     have hfz18_2:=blk_frozen BK193.out 2
     go_wp2_with (first | ((with_reducible refine gate_callee (f:=52) rfl ?_);refine Up.gl (some 20) Tryd.func52 #[.int .i64 a0_1] ?_;(with_reducible refine (strconv_Itoa.calls (hT_:=?tab1) a0_1 t200 _ A14.out).mono ?_);(case tab1 => exact hT_.below (Up.Bx HB));rintro e w19 ⟨rfl,hb⟩;refine ⟨_,rfl,?_⟩;have n0_:=Up.KB BK193 hb;have n1_:=Up.KB BK198 hb;have n2_:=Aside0.mk (below_step (Up.Bx HB) hb);clear BK193 BK198 HB;have BK193:=n0_;have BK198:=n1_;have HB:=n2_;clear n0_ n1_ n2_;(try clear hb);(try clear hb2);(try clear hk);(try clear hi)))
     go_meet
     case rel => exact ⟨_,(a0_0 ++ ((⟨#[32]⟩ : ByteArray) ++ t200)),(by first | rfl | (simp;done) | (simp [*];done)),H',⟨by first | omega | exact Nat.le_refl _⟩,⟨by (with_reducible repeat (first | refine blk_drewN ?_ _ | refine blk_drew ?_ | refine blk_alloc ?_ _));exact BK193.out⟩,⟨by (with_reducible repeat (first | refine blk_drewN ?_ _ | refine blk_drew ?_ | refine blk_alloc ?_ _));exact BK198.out⟩,⟨Up.Bx HB⟩⟩
    ·rw [if_neg c16] at H
     exact absurd H (by simp)
   ·rw [if_neg c15] at H
    exact absurd H (by simp)
  ·rw [if_neg c13] at H
   have c13b0 : decide (0 < t199) = false:=decide_eq_false c13
   clear c13
   (first | rw [c13b0] | (simp only [i64_w,i32_w];rw [c13b0]) | skip)
   have H':=Aside0.mk H
   clear H
   go_wp2
   go_meet
   case rel => exact ⟨_,(a0_0),(by first | rfl | (simp;done) | (simp [*];done)),H',⟨by first | omega | exact Nat.le_refl _⟩,⟨by (with_reducible repeat (first | refine blk_drewN ?_ _ | refine blk_drew ?_ | refine blk_alloc ?_ _));exact BK193.out⟩,⟨by (with_reducible repeat (first | refine blk_drewN ?_ _ | refine blk_drew ?_ | refine blk_alloc ?_ _));exact BK198.out⟩,⟨Up.Bx HB⟩⟩
 case rest =>
  clear HC4
  try clear c1
  try clear p2
  try clear c3
  try clear c4
  try clear c5
  try clear c9
  try clear c13
  try clear c13b0
  try clear c15
  try clear c15b0
  try clear c15b1
  try clear c15b2
  try clear c16
  try clear c16b0
  try clear c16b1
  try clear c16b2
  try clear c17
  try clear hcz10_0
  try clear hcz10_1
  try clear hcz10_2
  try clear hcz11_0
  try clear hcz11_1
  try clear hcz11_2
  try clear hcz18_0
  try clear hcz18_1
  try clear hcz18_2
  try clear hcz6_0
  try clear hcz6_1
  try clear hcz6_2
  try clear hfz10_0
  try clear hfz10_1
  try clear hfz10_2
  try clear hfz11_0
  try clear hfz11_1
  try clear hfz11_2
  try clear hfz18_0
  try clear hfz18_1
  try clear hfz18_2
  try clear hfz6_0
  try clear hfz6_1
  try clear hfz6_2
  obtain ⟨kq,x5_3,rfl,HA,HJ3,BK193,BK198,HB⟩:=hcut
  cases kq with
  | zero => exact absurd HA.out (by simp [impl_insText.j0])
  | succ kj3 =>
   have H:=HA.out
   clear HA
   simp only [impl_insText.j0] at H
   replace H:=Option.bind_eq_some_iff.mp H
   obtain ⟨t201,A200,H⟩:=H
   replace H : (if t201 > 1 then ((strconv_Itoa.f a0_2).bind fun t202 => (if 1 + t202.size ≤ 9223372036854775807 then (if x5_3.size + ((⟨#[32]⟩ : ByteArray) ++ t202).size ≤ 9223372036854775807 then (some (x5_3 ++ ((⟨#[32]⟩ : ByteArray) ++ t202))) else (none)) else (none))) else (some x5_3)) = some r:=H
   have A20:=Aside0.mk A200
   clear A200
   by_cases c21 : t201 > 1
   ·rw [if_pos c21] at H
    have c21b0 : decide (1 < t201) = true:=decide_eq_true c21
    clear c21
    replace H:=Option.bind_eq_some_iff.mp H
    obtain ⟨t202,A220,H⟩:=H
    replace H : (if 1 + t202.size ≤ 9223372036854775807 then (if x5_3.size + ((⟨#[32]⟩ : ByteArray) ++ t202).size ≤ 9223372036854775807 then (some (x5_3 ++ ((⟨#[32]⟩ : ByteArray) ++ t202))) else (none)) else (none)) = some r:=H
    have A22:=Aside0.mk A220
    clear A220
    by_cases c23 : 1 + t202.size ≤ 9223372036854775807
    ·rw [if_pos c23] at H
     have c23b0:=eq_true c23
     have c23b1 : decide (1 + t202.size ≤ 9223372036854775807) = true:=decide_eq_true c23
     try have c23b2 : (9223372036854775807 < 1 + t202.size) = False:=eq_false (Nat.not_lt.2 c23)
     by_cases c24 : x5_3.size + ((⟨#[32]⟩ : ByteArray) ++ t202).size ≤ 9223372036854775807
     ·rw [if_pos c24] at H
      have hzc24_ : (9223372036854775807 < x5_3.size + (1 + t202.size)) = False:=eq_false (by have h_:=c24;simp only [ByteArray.size_append] at h_;have h0_ : (⟨#[32]⟩ : ByteArray).size = 1:=rfl;omega)
      have c24b0:=eq_true c24
      have c24b1 : decide (x5_3.size + ((⟨#[32]⟩ : ByteArray) ++ t202).size ≤ 9223372036854775807) = true:=decide_eq_true c24
      try have c24b2 : (9223372036854775807 < x5_3.size + ((⟨#[32]⟩ : ByteArray) ++ t202).size) = False:=eq_false (Nat.not_lt.2 c24)
      obtain rfl:=Option.some.inj H
      have hnb25:=NB198_193.out
      have hnc25:=NB193_198.out
      have hcz26_0:=Up.c0 BK198
      have hcz26_1:=Up.c1 BK198
      have hcz26_2:=Up.c2 BK198
      have hfz26_0:=blk_frozen BK198.out 0
      have hfz26_1:=blk_frozen BK198.out 1
      have hfz26_2:=blk_frozen BK198.out 2
      go_wp2_with (first | ((with_reducible refine gate_callee (f:=48) rfl ?_);refine Up.gl (some 24) Tryd.func48 #[.agg #[.string t194,.int .i64 t195,.int .i64 t196]] ?_;(with_reducible refine (impl_insForm_many.calls t194 t195 t196 t201 _ A20.out).mono ?_);rintro e w27 ⟨rfl,hb⟩;refine ⟨_,rfl,?_⟩;have n0_:=Up.KB BK193 hb;have n1_:=Up.KB BK198 hb;have n2_:=Aside0.mk (below_step (Up.Bx HB) hb);clear BK193 BK198 HB;have BK193:=n0_;have BK198:=n1_;have HB:=n2_;clear n0_ n1_ n2_;(try clear hb);(try clear hb2);(try clear hk);(try clear hi);have hcz28_0:=Up.c0 BK193;have hcz28_1:=Up.c1 BK193;have hcz28_2:=Up.c2 BK193;have hfz28_0:=blk_frozen BK193.out 0;have hfz28_1:=blk_frozen BK193.out 1;have hfz28_2:=blk_frozen BK193.out 2) | ((with_reducible refine gate_callee (f:=52) rfl ?_);refine Up.gl (some 29) Tryd.func52 #[.int .i64 a0_2] ?_;(with_reducible refine (strconv_Itoa.calls (hT_:=?tab1) a0_2 t202 _ A22.out).mono ?_);(case tab1 => exact hT_.below (Up.Bx HB));rintro e w29 ⟨rfl,hb⟩;refine ⟨_,rfl,?_⟩;have n0_:=Up.KB BK193 hb;have n1_:=Up.KB BK198 hb;have n2_:=Aside0.mk (below_step (Up.Bx HB) hb);clear BK193 BK198 HB;have BK193:=n0_;have BK198:=n1_;have HB:=n2_;clear n0_ n1_ n2_;(try clear hb);(try clear hb2);(try clear hk);(try clear hi)))
      go_ret
      exact Up.e1 (Up.Bx HB)
     ·rw [if_neg c24] at H
      exact absurd H (by simp)
    ·rw [if_neg c23] at H
     exact absurd H (by simp)
   ·rw [if_neg c21] at H
    have c21b0 : decide (1 < t201) = false:=decide_eq_false c21
    clear c21
    obtain rfl:=Option.some.inj H
    have hnb30:=NB198_193.out
    have hnc30:=NB193_198.out
    have hcz31_0:=Up.c0 BK198
    have hcz31_1:=Up.c1 BK198
    have hcz31_2:=Up.c2 BK198
    have hfz31_0:=blk_frozen BK198.out 0
    have hfz31_1:=blk_frozen BK198.out 1
    have hfz31_2:=blk_frozen BK198.out 2
    go_wp2_with (first | ((with_reducible refine gate_callee (f:=48) rfl ?_);refine Up.gl (some 24) Tryd.func48 #[.agg #[.string t194,.int .i64 t195,.int .i64 t196]] ?_;(with_reducible refine (impl_insForm_many.calls t194 t195 t196 t201 _ A20.out).mono ?_);rintro e w32 ⟨rfl,hb⟩;refine ⟨_,rfl,?_⟩;have n0_:=Up.KB BK193 hb;have n1_:=Up.KB BK198 hb;have n2_:=Aside0.mk (below_step (Up.Bx HB) hb);clear BK193 BK198 HB;have BK193:=n0_;have BK198:=n1_;have HB:=n2_;clear n0_ n1_ n2_;(try clear hb);(try clear hb2);(try clear hk);(try clear hi)))
    go_ret
    exact Up.e1 (Up.Bx HB)

/-! ### impl_InsText: function 23 -/
def impl_InsText.f (k : Nat) (a0_0 : ByteArray) (a0_1 : Int) (a0_2 : Int) : Option (ByteArray):=(impl_InsOk.f k a0_0 a0_1 a0_2).bind fun t204 => (if t204 = true then ((impl_insText.f k a0_0 a0_1 a0_2).bind fun t205 => (some t205)) else (some (⟨#[]⟩ : ByteArray)))
theorem impl_InsText.mono : ∀ a0 a1 a2 k,LeO (impl_InsText.f k a0 a1 a2) (impl_InsText.f (k + 1) a0 a1 a2):=by
 intro a0 a1 a2 k
 unfold impl_InsText.f
 repeat' first
   | (with_reducible exact impl_InsOk.mono _ _ _ _)
   | (with_reducible exact impl_insText.mono _ _ _ _)
   | (with_reducible exact LeO.refl _)
   | (with_reducible exact LeO.none _)
   | (with_reducible refine LeO.ite ?_ ?_)
   | (with_reducible refine LeO.bind ?_ (fun _ => ?_))
   | exact impl_InsOk.mono _ _ _ _
   | exact impl_insText.mono _ _ _ _
   | exact LeO.none _
   | refine LeO.ite ?_ ?_
   | refine LeO.bind ?_ (fun _ => ?_)
set_option maxHeartbeats 8000000 in
set_option maxRecDepth 100000 in
theorem impl_InsText.calls (k : Nat) (a0_0 : ByteArray) (a0_1 : Int) (a0_2 : Int) (r : ByteArray) (w : World) (hT_ : Tab w) (h : impl_InsText.f k a0_0 a0_1 a0_2 = some r) :
  Calls Tryd.prog 23 #[.agg #[.string a0_0,.int .i64 a0_1,.int .i64 a0_2]] w fun e w' => e = .returned (.string r) ∧ Below w.heap.size w w':=by
 have hu26:=Tryd.underlying26
 have HB:=Aside0.mk (Below.refl w.heap.size w)
 have H : ((impl_InsOk.f k a0_0 a0_1 a0_2).bind fun t204 => (if t204 = true then ((impl_insText.f k a0_0 a0_1 a0_2).bind fun t205 => (some t205)) else (some (⟨#[]⟩ : ByteArray)))) = some r:=h
 clear h
 replace H:=Option.bind_eq_some_iff.mp H
 obtain ⟨t204,A20,H⟩:=H
 replace H : (if t204 = true then ((impl_insText.f k a0_0 a0_1 a0_2).bind fun t205 => (some t205)) else (some (⟨#[]⟩ : ByteArray))) = some r:=H
 have A2:=Aside0.mk A20
 clear A20
 by_cases c3 : t204 = true
 ·subst c3
  have H1 : ((impl_insText.f k a0_0 a0_1 a0_2).bind fun t205 => (some t205)) = some r:=by rw [if_pos rfl] at H;exact H
  clear H
  have H:=H1
  clear H1
  replace H:=Option.bind_eq_some_iff.mp H
  obtain ⟨t205,A40,H⟩:=H
  replace H : (some t205) = some r:=H
  have A4:=Aside0.mk A40
  clear A40
  obtain rfl:=Option.some.inj H
  go_enter Tryd.func23,Tryd.ntmps23
  go_wp2_with (first | ((with_reducible refine gate_dst (N:=1) rfl ?_);refine Up.bx 1 26 #[.string a0_0,.int .i64 a0_1,.int .i64 a0_2] ?_;intro gb203 hg w5 hbox hb;have n0_:=Up.BB HB hb;have n1_:=Aside0.mk (hbox);have n2_:=Up.gw hg HB;have n3_:=Up.gw hg HB;clear HB;have HB:=n0_;have BK203:=n1_;have GW203:=n2_;have GE203:=n3_;clear n0_ n1_ n2_ n3_ hb hbox hg;have hcz6_0:=Up.c0 BK203;have hcz6_1:=Up.c1 BK203;have hcz6_2:=Up.c2 BK203;have hfz6_0:=blk_frozen BK203.out 0;have hfz6_1:=blk_frozen BK203.out 1;have hfz6_2:=blk_frozen BK203.out 2) | ((with_reducible refine gate_callee (f:=14) rfl ?_);refine Up.gl (some 4) Tryd.func14 #[.agg #[.string a0_0,.int .i64 a0_1,.int .i64 a0_2]] ?_;(with_reducible refine (impl_InsOk.calls (hT_:=?tab1) k a0_0 a0_1 a0_2 true _ A2.out).mono ?_);(case tab1 => exact hT_.below (Up.Bx HB));rintro e w7 ⟨rfl,hb⟩;refine ⟨_,rfl,?_⟩;have n0_:=Up.KB BK203 hb;have n1_:=Aside0.mk (below_step (Up.Bx HB) hb);clear BK203 HB;have BK203:=n0_;have HB:=n1_;clear n0_ n1_;(try clear hb);(try clear hb2);(try clear hk);(try clear hi);have hcz8_0:=Up.c0 BK203;have hcz8_1:=Up.c1 BK203;have hcz8_2:=Up.c2 BK203;have hfz8_0:=blk_frozen BK203.out 0;have hfz8_1:=blk_frozen BK203.out 1;have hfz8_2:=blk_frozen BK203.out 2) | ((with_reducible refine gate_callee (f:=39) rfl ?_);refine Up.gl (some 7) Tryd.func39 #[.agg #[.string a0_0,.int .i64 a0_1,.int .i64 a0_2]] ?_;(with_reducible refine (impl_insText.calls (hT_:=?tab1) k a0_0 a0_1 a0_2 t205 _ A4.out).mono ?_);(case tab1 => exact hT_.below (Up.Bx HB));rintro e w9 ⟨rfl,hb⟩;refine ⟨_,rfl,?_⟩;have n0_:=Up.KB BK203 hb;have n1_:=Aside0.mk (below_step (Up.Bx HB) hb);clear BK203 HB;have BK203:=n0_;have HB:=n1_;clear n0_ n1_;(try clear hb);(try clear hb2);(try clear hk);(try clear hi)))
  go_ret
  exact Up.e1 (Up.Bx HB)
 ·replace c3:=Bool.eq_false_iff.mpr c3
  subst c3
  have H1 : (some (⟨#[]⟩ : ByteArray)) = some r:=by rw [if_neg (show ¬ (false = true) by decide)] at H;exact H
  clear H
  have H:=H1
  clear H1
  obtain rfl:=Option.some.inj H
  go_enter Tryd.func23,Tryd.ntmps23
  go_wp2_with (first | ((with_reducible refine gate_dst (N:=1) rfl ?_);refine Up.bx 1 26 #[.string a0_0,.int .i64 a0_1,.int .i64 a0_2] ?_;intro gb203 hg w10 hbox hb;have n0_:=Up.BB HB hb;have n1_:=Aside0.mk (hbox);have n2_:=Up.gw hg HB;have n3_:=Up.gw hg HB;clear HB;have HB:=n0_;have BK203:=n1_;have GW203:=n2_;have GE203:=n3_;clear n0_ n1_ n2_ n3_ hb hbox hg;have hcz11_0:=Up.c0 BK203;have hcz11_1:=Up.c1 BK203;have hcz11_2:=Up.c2 BK203;have hfz11_0:=blk_frozen BK203.out 0;have hfz11_1:=blk_frozen BK203.out 1;have hfz11_2:=blk_frozen BK203.out 2) | ((with_reducible refine gate_callee (f:=14) rfl ?_);refine Up.gl (some 4) Tryd.func14 #[.agg #[.string a0_0,.int .i64 a0_1,.int .i64 a0_2]] ?_;(with_reducible refine (impl_InsOk.calls (hT_:=?tab1) k a0_0 a0_1 a0_2 false _ A2.out).mono ?_);(case tab1 => exact hT_.below (Up.Bx HB));rintro e w12 ⟨rfl,hb⟩;refine ⟨_,rfl,?_⟩;have n0_:=Up.KB BK203 hb;have n1_:=Aside0.mk (below_step (Up.Bx HB) hb);clear BK203 HB;have BK203:=n0_;have HB:=n1_;clear n0_ n1_;(try clear hb);(try clear hb2);(try clear hk);(try clear hi)))
  go_ret
  exact Up.e1 (Up.Bx HB)

/-! ### strings_Split: function 47 -/

def strings_Split.f (s sep : ByteArray) : Option (List ByteArray) := if s.size < 4000000000 ∧ 1 ≤ sep.size then some (Lib.splitB sep 0 (Lib.countB s sep) s) else none
theorem strings_Split.calls (a0 a1 : ByteArray) (r : List ByteArray) (w : World) (hT_ : Tab w) (h : strings_Split.f a0 a1 = some r) :
    Calls Tryd.prog 47 #[.string a0, .string a1] w fun e w' => ∃ v0_ : Value, e = .returned (v0_) ∧ Kd.V Kd.string 9 w' w.heap.size (fun k_ => (w.heap.size ≤ k_)) v0_ r ∧ Below w.heap.size w w' := by
  unfold strings_Split.f at h
  split at h
  · rename_i hc
    obtain rfl := Option.some.inj h
    obtain ⟨m, hm⟩ := hT_.f3
    refine (Tryd.strings_Split a0 a1 m w (by omega) hm hc.2).mono ?_
    rintro e w' ⟨rfl, rfl⟩
    have hl := Lib.splitB_all a1 hc.2 0 (Lib.countB a0 a1) a0 rfl
    have hb := Lib.countB_le a1 hc.2 a0.size a0 (Nat.le_refl _)
    rw [← hl]
    refine ⟨_, rfl, Kd.R_V (Kd.R_of_own (base := w.heap.size) ?_ (fun k_ hk_ => by have h_ : w.heap.size = k_ := Option.some.inj hk_; omega)), below_alloc (Below.refl _ _) _⟩
    refine ⟨by simp [encs_length], .inr ⟨w.heap.size, _, _, rfl, Nat.le_refl _, heap_alloc_new w _, Nat.le_refl _, ?_, ?_, ?_⟩⟩
    · have hm : (4000000001 : Nat) ≤ maxLen := by decide
      exact Nat.le_trans (by omega) hm
    · simp
    · rw [List.take_of_length_le (by simp)]
      simp [encs]
  · cases h

end Go.Proofs.YtfkhjnmgaadomaaDoor.OFnInsText
