-- Laid by a program of this session (wip/myprint.py): the kit's print of the functions, contracts of our own among them.
import Derived.Test.YtcdamcfklehedaaOFnExactShelfKindsx0
import Derived.Test.YtcdamcfklehedaaOFnExactShelfKindsx2
namespace Go.Proofs.Ytcdamcfklehedaa.OFnExactShelfKinds
open Go.RowKit Go.Proofs.YtcdamcfklehedaaW.PrintWords Go.Proofs.YtcdamcfklehedaaW.PrintLast Go.Proofs.YtcdamcfklehedaaW.PrintMore
attribute [local go_sem] max2_int min2_int max_two min_two max_three min_three max_four min_four   -- for this text's walks alone
set_option linter.unusedVariables false
set_option linter.unusedSimpArgs false

/-! ### laws_heldStringS: function 43 -/
def laws_heldStringS.l0 : Nat → List ByteArray → Int → Int → Option (Int)
 | 0,_,_,_ => none
 | k + 1,x0,x1,x5 => if x5 < (x0.length : Int) then (if 0 ≤ x5 then ((laws_markText.f k x1).bind fun t332 => (if (rdOf ByteArray.empty x0 x5).toList = t332.toList then (laws_heldStringS.l0 k x0 (wrap64 (x1 + 1)) (wrap64 (x5 + 1))) else (some (-1)))) else (none)) else (some x1)
def laws_heldStringS.f (k : Nat) (l0 : List ByteArray) (a1 : Int) : Option (Int):=laws_heldStringS.l0 k l0 a1 0
theorem laws_heldStringS.mono_l : ∀ k,(∀ y0 y1 y2,LeO (laws_heldStringS.l0 k y0 y1 y2) (laws_heldStringS.l0 (k + 1) y0 y1 y2))
 | 0 => fun _ _ _ r h => by simp [laws_heldStringS.l0] at h
 | k + 1 => by
  have ih0:=laws_heldStringS.mono_l k
  ·intro y0 y1 y2;unfold laws_heldStringS.l0;repeat' first
   | (with_reducible exact ih0 _ _ _)
   | (with_reducible exact laws_markText.mono _ _)
   | (with_reducible exact LeO.refl _)
   | (with_reducible exact LeO.none _)
   | (with_reducible refine LeO.ite ?_ ?_)
   | (with_reducible refine LeO.bind ?_ (fun _ => ?_))
   | exact ih0 _ _ _
   | exact laws_markText.mono _ _
   | exact LeO.none _
   | refine LeO.ite ?_ ?_
   | refine LeO.bind ?_ (fun _ => ?_)
theorem laws_heldStringS.mono : ∀ a0 a1 k,LeO (laws_heldStringS.f k a0 a1) (laws_heldStringS.f (k + 1) a0 a1):=by
 intro a0 a1 k;have ih0:=laws_heldStringS.mono_l k;unfold laws_heldStringS.f
 repeat' first
   | (with_reducible exact ih0 _ _ _)
   | (with_reducible exact laws_markText.mono _ _)
   | (with_reducible exact LeO.refl _)
   | (with_reducible exact LeO.none _)
   | (with_reducible refine LeO.ite ?_ ?_)
   | (with_reducible refine LeO.bind ?_ (fun _ => ?_))
   | exact ih0 _ _ _
   | exact laws_markText.mono _ _
   | exact LeO.none _
   | refine LeO.ite ?_ ?_
   | refine LeO.bind ?_ (fun _ => ?_)
set_option maxHeartbeats 8000000 in
set_option maxRecDepth 100000 in
theorem laws_heldStringS.calls (k : Nat) (A0 : Option Addr) (c0 : Nat) (l0 : List ByteArray) (a1 : Int) (r : Int) (w : World) (hr0 : Kd.C Kd.string w A0 l0.length l0) (hc0 : l0.length ≤ c0) (h : laws_heldStringS.f k l0 a1 = some r) :
  Calls Try.prog 43 #[.slice A0 l0.length c0,.int .i64 a1] w fun e w' => e = .returned (.int .i64 r) ∧ Below w.heap.size w w':=by
 have HR0:=Aside0.mk hr0;have HC0:=Aside0.mk hc0;clear hr0 hc0;have HB:=Aside0.mk (Below.refl w.heap.size w);have H : (laws_heldStringS.l0 k l0 a1 0) = some r:=h;clear h;have H':=Aside0.mk H;clear H;go_enter Try.func43,Try.ntmps43;go_wp2;go_loopg [1,5] k (fun kq v1 v5 w' => ∃ (x1_1 : Int) (x5_1 : Int),v1 = .int .i64 x1_1 ∧ v5 = .int .i64 x5_1 ∧ Aside0 (laws_heldStringS.l0 kq l0 x1_1 x5_1 = some r) ∧ Aside0 (kq ≤ k) ∧ Aside0 (Below w.heap.size w w'))
 case atStart => exact ⟨(a1),(0),(by first | rfl | (simp;done) | (simp [*];done)),(by first | rfl | (simp;done) | (simp [*];done)),H',⟨Nat.le_refl _⟩,⟨Up.Bup HB⟩⟩
 case round =>
  clear H';(try clear p2);obtain ⟨x1_1,x5_1,rfl,rfl,HA,HK1,HB⟩:=hrel;cases gk with
  | zero => exact absurd HA.out (by simp [laws_heldStringS.l0])
  | succ k1 =>
   have H:=HA.out;clear HA;(simp only [laws_heldStringS.l0] at H);by_cases c3 : x5_1 < (l0.length : Int)
   ·(rw [if_pos c3] at H);have c3b0:=decide_eq_true c3;clear c3;replace H:=Up.ip H;obtain ⟨c4,H⟩:=H;have c4b0:=decide_eq_true c4;clear c4;replace H:=Up.bd H;obtain ⟨t332,A5,H⟩:=H;(try dsimp only at H);by_cases c6 : (rdOf ByteArray.empty l0 x5_1).toList = t332.toList
    ·(rw [if_pos c6] at H);have c6b0 : ((rdOf ByteArray.empty l0 x5_1).toList == t332.toList) = true:=beq_iff_eq.mpr c6;have c6b1 : ((rdOf ByteArray.empty l0 x5_1).toList != t332.toList) = false:=bne_eq_false_iff_eq.mpr c6;clear c6;have H':=Aside0.mk H;clear H;(try go_wp2);replace HB:=Aside0.mk (below_drew1 HB.out);have p331 : 0 ≤ (x5_1 : Int):=Up.od;have q331 : x5_1 < (l0.length : Int):=Up.od;obtain ⟨ad331,e331,hx331_0⟩:=Kd.at_string HR0.out x5_1 p331 q331;have hw331_0:=hx331_0;cases e331;replace hx331_0:=Up.hc HB hx331_0;replace p331:=eq_true p331;replace q331:=eq_true q331;refine start_ (n:=7) (S:=fun w' => w'.cell? (ad331.add (x5_1).toNat) = some (.string (rdOf ByteArray.empty l0 x5_1))) (ds:=[]) #[false,false,false,false,false,false,false] (by kernel_rfl) rfl rfl ((Up.hd HB hw331_0)) (fun hHeld => ?_);(generalize wr.drew = w7 at HB hx331_0 hHeld ⊢);refine Up.pn 0 (some 12) ?_;refine Up.pn 1 (some 13) ?_;refine Up.pn 2 (some 14) ?_;refine Up.pn 4 (some 16) ?_;refine take_ (i:=3) (N:=some 15) (v:=?_) (a':=?_) #[true,true,true,true,true,false,false] rfl rfl (by kernel_rfl) (fun _ _ _ h => h) (Or.inl ⟨by rfl,?_⟩) hHeld ?_ ?_;rotate_left
     ·intro w' s0;go_simp
      with_reducible rfl
     rotate_left
     ·simp only [Act.put,List.setIfInBounds_toArray,List.set_cons_zero,List.set_cons_succ,i64_w,i32_w];rfl
     refine one_ (i:=5) (N:=some 17) #[true,true,true,true,true,true,false] rfl rfl (by kernel_rfl) (by decide) (fun K hK => ?_);refine Up.go Try.func60 #[.int .i64 x1_1] ?_
     with_reducible refine (laws_markText.calls k1 x1_1 t332 _ A5.out).mono ?_
     rintro e w8 ⟨rfl,hb⟩;refine ⟨_,rfl,?_⟩;replace HB:=Up.BB HB hb;(try clear hb);(try clear hb2);(try clear hk);(try clear hi);refine hK.out _ _ ((Up.hd HB hw331_0)) (fun hHeld => ?_);clear hK K;refine Up.nm 17 ?_;refine Up.pn 6 (some 18) ?_;refine done_ (by kernel_rfl) ?_;(try go_wp2);go_roundg k1
     case measure => have:=HK1.out;omega
     case rel => exact ⟨(wrap64 (x1_1 + 1)),(wrap64 (x5_1 + 1)),(by first | rfl | (simp;done) | (simp [*];done)),(by first | rfl | (simp;done) | (simp [*];done)),H',⟨by have:=HK1.out;omega⟩,⟨Up.Bup HB⟩⟩
    ·(rw [if_neg c6] at H);have c6b0 : ((rdOf ByteArray.empty l0 x5_1).toList == t332.toList) = false:=beq_eq_false_iff_ne.mpr c6;have c6b1 : ((rdOf ByteArray.empty l0 x5_1).toList != t332.toList) = true:=bne_iff_ne.mpr c6;obtain rfl:=Option.some.inj H;(try go_wp2);replace HB:=Aside0.mk (below_drew1 HB.out);have p331 : 0 ≤ (x5_1 : Int):=Up.od;have q331 : x5_1 < (l0.length : Int):=Up.od;obtain ⟨ad331,e331,hx331_0⟩:=Kd.at_string HR0.out x5_1 p331 q331;have hw331_0:=hx331_0;cases e331;replace hx331_0:=Up.hc HB hx331_0;replace p331:=eq_true p331;replace q331:=eq_true q331;refine start_ (n:=7) (S:=fun w' => w'.cell? (ad331.add (x5_1).toNat) = some (.string (rdOf ByteArray.empty l0 x5_1))) (ds:=[]) #[false,false,false,false,false,false,false] (by kernel_rfl) rfl rfl ((Up.hd HB hw331_0)) (fun hHeld => ?_);(generalize wr.drew = w9 at HB hx331_0 hHeld ⊢);refine Up.pn 0 (some 12) ?_;refine Up.pn 1 (some 13) ?_;refine Up.pn 2 (some 14) ?_;refine Up.pn 4 (some 16) ?_;refine take_ (i:=3) (N:=some 15) (v:=?_) (a':=?_) #[true,true,true,true,true,false,false] rfl rfl (by kernel_rfl) (fun _ _ _ h => h) (Or.inl ⟨by rfl,?_⟩) hHeld ?_ ?_;rotate_left
     ·intro w' s0;go_simp
      with_reducible rfl
     rotate_left
     ·simp only [Act.put,List.setIfInBounds_toArray,List.set_cons_zero,List.set_cons_succ,i64_w,i32_w];rfl
     refine one_ (i:=5) (N:=some 17) #[true,true,true,true,true,true,false] rfl rfl (by kernel_rfl) (by decide) (fun K hK => ?_);refine Up.go Try.func60 #[.int .i64 x1_1] ?_
     with_reducible refine (laws_markText.calls k1 x1_1 t332 _ A5.out).mono ?_
     rintro e w10 ⟨rfl,hb⟩;refine ⟨_,rfl,?_⟩;replace HB:=Up.BB HB hb;(try clear hb);(try clear hb2);(try clear hk);(try clear hi);refine hK.out _ _ ((Up.hd HB hw331_0)) (fun hHeld => ?_);clear hK K;refine Up.nm 17 ?_;refine Up.pn 6 (some 18) ?_;refine done_ (by kernel_rfl) ?_;(try go_wp2);go_ret;exact Up.e1 (Up.Bup HB)
   ·(rw [if_neg c3] at H);have c3b0:=decide_eq_false c3;clear c3;obtain rfl:=Option.some.inj H;go_wp2;go_ret;exact Up.e1 (Up.Bup HB)

/-! ### laws_heldRecordS: function 35 -/
def laws_heldRecordS.l0 : Nat → List (S60) → Int → Int → Option (Int)
 | 0,_,_,_ => none
 | k + 1,x0,x1,x5 => if x5 < (x0.length : Int) then (if 0 ≤ x5 then (if ((rd_T60 x0 x5).f0) = x1 then ((laws_heldStringS.f k ((rd_T60 x0 x5).f1) (wrap64 (x1 + 1))).bind fun t335 => (if t335 < 0 then (some (-1)) else (laws_heldRecordS.l0 k x0 t335 (wrap64 (x5 + 1))))) else (some (-1))) else (none)) else (some x1)
def laws_heldRecordS.f (k : Nat) (l0 : List (S60)) (a1 : Int) : Option (Int):=laws_heldRecordS.l0 k l0 a1 0
theorem laws_heldRecordS.mono_l : ∀ k,(∀ y0 y1 y2,LeO (laws_heldRecordS.l0 k y0 y1 y2) (laws_heldRecordS.l0 (k + 1) y0 y1 y2))
 | 0 => fun _ _ _ r h => by simp [laws_heldRecordS.l0] at h
 | k + 1 => by
  have ih0:=laws_heldRecordS.mono_l k
  ·intro y0 y1 y2;unfold laws_heldRecordS.l0;repeat' first
   | (with_reducible exact ih0 _ _ _)
   | (with_reducible exact laws_heldStringS.mono _ _ _)
   | (with_reducible exact LeO.refl _)
   | (with_reducible exact LeO.none _)
   | (with_reducible refine LeO.ite ?_ ?_)
   | (with_reducible refine LeO.bind ?_ (fun _ => ?_))
   | exact ih0 _ _ _
   | exact laws_heldStringS.mono _ _ _
   | exact LeO.none _
   | refine LeO.ite ?_ ?_
   | refine LeO.bind ?_ (fun _ => ?_)
theorem laws_heldRecordS.mono : ∀ a0 a1 k,LeO (laws_heldRecordS.f k a0 a1) (laws_heldRecordS.f (k + 1) a0 a1):=by
 intro a0 a1 k;have ih0:=laws_heldRecordS.mono_l k;unfold laws_heldRecordS.f
 repeat' first
   | (with_reducible exact ih0 _ _ _)
   | (with_reducible exact laws_heldStringS.mono _ _ _)
   | (with_reducible exact LeO.refl _)
   | (with_reducible exact LeO.none _)
   | (with_reducible refine LeO.ite ?_ ?_)
   | (with_reducible refine LeO.bind ?_ (fun _ => ?_))
   | exact ih0 _ _ _
   | exact laws_heldStringS.mono _ _ _
   | exact LeO.none _
   | refine LeO.ite ?_ ?_
   | refine LeO.bind ?_ (fun _ => ?_)
set_option maxHeartbeats 8000000 in
set_option maxRecDepth 100000 in
theorem laws_heldRecordS.calls (k : Nat) (A0 : Option Addr) (c0 : Nat) (l0 : List (S60)) (a1 : Int) (r : Int) (w : World) (hr0 : Kd.C k60 w A0 l0.length l0) (hc0 : l0.length ≤ c0) (h : laws_heldRecordS.f k l0 a1 = some r) :
  Calls Try.prog 35 #[.slice A0 l0.length c0,.int .i64 a1] w fun e w' => e = .returned (.int .i64 r) ∧ Below w.heap.size w w':=by
 have HR0:=Aside0.mk hr0;have HC0:=Aside0.mk hc0;clear hr0 hc0;have HB:=Aside0.mk (Below.refl w.heap.size w);have H : (laws_heldRecordS.l0 k l0 a1 0) = some r:=h;clear h;have H':=Aside0.mk H;clear H;go_enter Try.func35,Try.ntmps35;go_wp2;go_loopg [1,5] k (fun kq v1 v5 w' => ∃ (x1_1 : Int) (x5_1 : Int),v1 = .int .i64 x1_1 ∧ v5 = .int .i64 x5_1 ∧ Aside0 (laws_heldRecordS.l0 kq l0 x1_1 x5_1 = some r) ∧ Aside0 (kq ≤ k) ∧ Aside0 (Below w.heap.size w w'))
 case atStart => exact ⟨(a1),(0),(by first | rfl | (simp;done) | (simp [*];done)),(by first | rfl | (simp;done) | (simp [*];done)),H',⟨Nat.le_refl _⟩,⟨Up.Bup HB⟩⟩
 case round =>
  clear H';(try clear p2);obtain ⟨x1_1,x5_1,rfl,rfl,HA,HK1,HB⟩:=hrel;cases gk with
  | zero => exact absurd HA.out (by simp [laws_heldRecordS.l0])
  | succ k1 =>
   have H:=HA.out;clear HA;(simp only [laws_heldRecordS.l0] at H);by_cases c3 : x5_1 < (l0.length : Int)
   ·(rw [if_pos c3] at H);have c3b0:=decide_eq_true c3;clear c3;replace H:=Up.ip H;obtain ⟨c4,H⟩:=H;have c4b0:=decide_eq_true c4;clear c4;by_cases c5 : ((rd_T60 l0 x5_1).f0) = x1_1
    ·(rw [if_pos c5] at H);have c5b0 : (((rd_T60 l0 x5_1).f0) == x1_1) = true:=beq_iff_eq.mpr c5;have c5b1 : (((rd_T60 l0 x5_1).f0) != x1_1) = false:=bne_eq_false_iff_eq.mpr c5;clear c5;replace H:=Up.bd H;obtain ⟨t335,A6,H⟩:=H;(try dsimp only at H);by_cases c7 : t335 < 0
     ·(rw [if_pos c7] at H);have c7b0:=decide_eq_true c7;clear c7;obtain rfl:=Option.some.inj H;have p333 : 0 ≤ (x5_1 : Int):=Up.od;have q333 : x5_1 < (l0.length : Int):=Up.od;obtain ⟨ad333,A333_1,c333_1,e333,hx333_0,hx333_1,hl333_1,hi333_1⟩:=at_T60 HR0.out x5_1 p333 q333;cases e333;replace hx333_0:=Up.hc HB hx333_0;replace hx333_1:=Up.hc HB hx333_1;have HR333_1:=Aside0.mk hi333_1;have HC333_1:=Aside0.mk hl333_1;clear hi333_1 hl333_1;replace p333:=eq_true p333;replace q333:=eq_true q333;have p334 : 0 ≤ (x5_1 : Int):=Up.od;have q334 : x5_1 < (l0.length : Int):=Up.od;obtain ⟨ad334,A334_1,c334_1,e334,hx334_0,hx334_1,hl334_1,hi334_1⟩:=at_T60 HR0.out x5_1 p334 q334;(obtain rfl : ad333 = ad334:=(by injection e334));replace hx334_0:=Up.hc HB hx334_0;replace hx334_1:=Up.hc HB hx334_1;have HR334_1:=Aside0.mk hi334_1;have HC334_1:=Aside0.mk hl334_1;clear hi334_1 hl334_1;replace p334:=eq_true p334;replace q334:=eq_true q334;have ea_:=Option.some.inj (hx333_1.symm.trans hx334_1);injection ea_ with ea_ en_ ec_;subst ea_;subst ec_;clear en_;go_wp2_with (first | ((with_reducible refine gate_callee (f:=43) rfl ?_);refine Up.gl (some 27) Try.func43 #[.slice A333_1 ((rd_T60 l0 x5_1).f1).length c333_1,.int .i64 (wrap64 (x1_1 + 1))] ?_;(with_reducible refine (laws_heldStringS.calls k1 _ _ ((rd_T60 l0 x5_1).f1) (wrap64 (x1_1 + 1)) t335 _ ?side1 ?side2 A6.out).mono ?_);(case side1 => exact Up.Cx HR334_1 HB);(case side2 => exact HC334_1.out);rintro e w8 ⟨rfl,hb⟩;refine ⟨_,rfl,?_⟩;replace HB:=Up.BB HB hb;(try clear hb);(try clear hb2);(try clear hk);(try clear hi)));go_ret;exact Up.e1 (Up.Bup HB)
     ·(rw [if_neg c7] at H);have c7b0:=decide_eq_false c7;clear c7;have H':=Aside0.mk H;clear H;have p333 : 0 ≤ (x5_1 : Int):=Up.od;have q333 : x5_1 < (l0.length : Int):=Up.od;obtain ⟨ad333,A333_1,c333_1,e333,hx333_0,hx333_1,hl333_1,hi333_1⟩:=at_T60 HR0.out x5_1 p333 q333;cases e333;replace hx333_0:=Up.hc HB hx333_0;replace hx333_1:=Up.hc HB hx333_1;have HR333_1:=Aside0.mk hi333_1;have HC333_1:=Aside0.mk hl333_1;clear hi333_1 hl333_1;replace p333:=eq_true p333;replace q333:=eq_true q333;have p334 : 0 ≤ (x5_1 : Int):=Up.od;have q334 : x5_1 < (l0.length : Int):=Up.od;obtain ⟨ad334,A334_1,c334_1,e334,hx334_0,hx334_1,hl334_1,hi334_1⟩:=at_T60 HR0.out x5_1 p334 q334;(obtain rfl : ad333 = ad334:=(by injection e334));replace hx334_0:=Up.hc HB hx334_0;replace hx334_1:=Up.hc HB hx334_1;have HR334_1:=Aside0.mk hi334_1;have HC334_1:=Aside0.mk hl334_1;clear hi334_1 hl334_1;replace p334:=eq_true p334;replace q334:=eq_true q334;have ea_:=Option.some.inj (hx333_1.symm.trans hx334_1);injection ea_ with ea_ en_ ec_;subst ea_;subst ec_;clear en_;go_wp2_with (first | ((with_reducible refine gate_callee (f:=43) rfl ?_);refine Up.gl (some 27) Try.func43 #[.slice A333_1 ((rd_T60 l0 x5_1).f1).length c333_1,.int .i64 (wrap64 (x1_1 + 1))] ?_;(with_reducible refine (laws_heldStringS.calls k1 _ _ ((rd_T60 l0 x5_1).f1) (wrap64 (x1_1 + 1)) t335 _ ?side1 ?side2 A6.out).mono ?_);(case side1 => exact Up.Cx HR334_1 HB);(case side2 => exact HC334_1.out);rintro e w9 ⟨rfl,hb⟩;refine ⟨_,rfl,?_⟩;replace HB:=Up.BB HB hb;(try clear hb);(try clear hb2);(try clear hk);(try clear hi)));go_roundg k1
      case measure => have:=HK1.out;omega
      case rel => exact ⟨(t335),(wrap64 (x5_1 + 1)),(by first | rfl | (simp;done) | (simp [*];done)),(by first | rfl | (simp;done) | (simp [*];done)),H',⟨by have:=HK1.out;omega⟩,⟨Up.Bup HB⟩⟩
    ·(rw [if_neg c5] at H);have c5b0 : (((rd_T60 l0 x5_1).f0) == x1_1) = false:=beq_eq_false_iff_ne.mpr c5;have c5b1 : (((rd_T60 l0 x5_1).f0) != x1_1) = true:=bne_iff_ne.mpr c5;obtain rfl:=Option.some.inj H;have p333 : 0 ≤ (x5_1 : Int):=Up.od;have q333 : x5_1 < (l0.length : Int):=Up.od;obtain ⟨ad333,A333_1,c333_1,e333,hx333_0,hx333_1,hl333_1,hi333_1⟩:=at_T60 HR0.out x5_1 p333 q333;cases e333;replace hx333_0:=Up.hc HB hx333_0;replace hx333_1:=Up.hc HB hx333_1;have HR333_1:=Aside0.mk hi333_1;have HC333_1:=Aside0.mk hl333_1;clear hi333_1 hl333_1;replace p333:=eq_true p333;replace q333:=eq_true q333;go_wp2;go_ret;exact Up.e1 (Up.Bup HB)
   ·(rw [if_neg c3] at H);have c3b0:=decide_eq_false c3;clear c3;obtain rfl:=Option.some.inj H;go_wp2;go_ret;exact Up.e1 (Up.Bup HB)

/-! ### laws_heldRecordSS: function 16 -/
def laws_heldRecordSS.l0 : Nat → List (List (S60)) → Int → Int → Option (Int)
 | 0,_,_,_ => none
 | k + 1,x0,x1,x5 => if x5 < (x0.length : Int) then (if 0 ≤ x5 then ((laws_heldRecordS.f k (rd_L15 x0 x5) x1).bind fun t337 => (if t337 < 0 then (some (-1)) else (laws_heldRecordSS.l0 k x0 t337 (wrap64 (x5 + 1))))) else (none)) else (some x1)
def laws_heldRecordSS.f (k : Nat) (l0 : List (List (S60))) (a1 : Int) : Option (Int):=laws_heldRecordSS.l0 k l0 a1 0
theorem laws_heldRecordSS.mono_l : ∀ k,(∀ y0 y1 y2,LeO (laws_heldRecordSS.l0 k y0 y1 y2) (laws_heldRecordSS.l0 (k + 1) y0 y1 y2))
 | 0 => fun _ _ _ r h => by simp [laws_heldRecordSS.l0] at h
 | k + 1 => by
  have ih0:=laws_heldRecordSS.mono_l k
  ·intro y0 y1 y2;unfold laws_heldRecordSS.l0;repeat' first
   | (with_reducible exact ih0 _ _ _)
   | (with_reducible exact laws_heldRecordS.mono _ _ _)
   | (with_reducible exact LeO.refl _)
   | (with_reducible exact LeO.none _)
   | (with_reducible refine LeO.ite ?_ ?_)
   | (with_reducible refine LeO.bind ?_ (fun _ => ?_))
   | exact ih0 _ _ _
   | exact laws_heldRecordS.mono _ _ _
   | exact LeO.none _
   | refine LeO.ite ?_ ?_
   | refine LeO.bind ?_ (fun _ => ?_)
theorem laws_heldRecordSS.mono : ∀ a0 a1 k,LeO (laws_heldRecordSS.f k a0 a1) (laws_heldRecordSS.f (k + 1) a0 a1):=by
 intro a0 a1 k;have ih0:=laws_heldRecordSS.mono_l k;unfold laws_heldRecordSS.f
 repeat' first
   | (with_reducible exact ih0 _ _ _)
   | (with_reducible exact laws_heldRecordS.mono _ _ _)
   | (with_reducible exact LeO.refl _)
   | (with_reducible exact LeO.none _)
   | (with_reducible refine LeO.ite ?_ ?_)
   | (with_reducible refine LeO.bind ?_ (fun _ => ?_))
   | exact ih0 _ _ _
   | exact laws_heldRecordS.mono _ _ _
   | exact LeO.none _
   | refine LeO.ite ?_ ?_
   | refine LeO.bind ?_ (fun _ => ?_)
set_option maxHeartbeats 8000000 in
set_option maxRecDepth 100000 in
theorem laws_heldRecordSS.calls (k : Nat) (A0 : Option Addr) (c0 : Nat) (l0 : List (List (S60))) (a1 : Int) (r : Int) (w : World) (hr0 : Kd.C (Kd.slice 60 k60) w A0 l0.length l0) (hc0 : l0.length ≤ c0) (h : laws_heldRecordSS.f k l0 a1 = some r) :
  Calls Try.prog 16 #[.slice A0 l0.length c0,.int .i64 a1] w fun e w' => e = .returned (.int .i64 r) ∧ Below w.heap.size w w':=by
 have HR0:=Aside0.mk hr0;have HC0:=Aside0.mk hc0;clear hr0 hc0;have HB:=Aside0.mk (Below.refl w.heap.size w);have H : (laws_heldRecordSS.l0 k l0 a1 0) = some r:=h;clear h;have H':=Aside0.mk H;clear H;go_enter Try.func16,Try.ntmps16;go_wp2;go_loopg [1,5] k (fun kq v1 v5 w' => ∃ (x1_1 : Int) (x5_1 : Int),v1 = .int .i64 x1_1 ∧ v5 = .int .i64 x5_1 ∧ Aside0 (laws_heldRecordSS.l0 kq l0 x1_1 x5_1 = some r) ∧ Aside0 (kq ≤ k) ∧ Aside0 (Below w.heap.size w w'))
 case atStart => exact ⟨(a1),(0),(by first | rfl | (simp;done) | (simp [*];done)),(by first | rfl | (simp;done) | (simp [*];done)),H',⟨Nat.le_refl _⟩,⟨Up.Bup HB⟩⟩
 case round =>
  clear H';(try clear c1);(try clear p2);obtain ⟨x1_1,x5_1,rfl,rfl,HA,HK1,HB⟩:=hrel;cases gk with
  | zero => exact absurd HA.out (by simp [laws_heldRecordSS.l0])
  | succ k1 =>
   have H:=HA.out;clear HA;(simp only [laws_heldRecordSS.l0] at H);by_cases c3 : x5_1 < (l0.length : Int)
   ·(rw [if_pos c3] at H);have c3b0:=decide_eq_true c3;clear c3;replace H:=Up.ip H;obtain ⟨c4,H⟩:=H;have c4b0:=decide_eq_true c4;clear c4;replace H:=Up.bd H;obtain ⟨t337,A5,H⟩:=H;(try dsimp only at H);by_cases c6 : t337 < 0
    ·(rw [if_pos c6] at H);have c6b0:=decide_eq_true c6;clear c6;obtain rfl:=Option.some.inj H;have p336 : 0 ≤ (x5_1 : Int):=Up.od;have q336 : x5_1 < (l0.length : Int):=Up.od;obtain ⟨ad336,A336_0,c336_0,e336,hx336_0,hl336_0,hi336_0⟩:=at_L15 HR0.out x5_1 p336 q336;cases e336;replace hx336_0:=Up.hc HB hx336_0;have HR336_0:=Aside0.mk hi336_0;have HC336_0:=Aside0.mk hl336_0;clear hi336_0 hl336_0;replace p336:=eq_true p336;replace q336:=eq_true q336;go_wp2_with (first | ((with_reducible refine gate_callee (f:=35) rfl ?_);refine Up.gl (some 17) Try.func35 #[.slice A336_0 (rd_L15 l0 x5_1).length c336_0,.int .i64 x1_1] ?_;(with_reducible refine (laws_heldRecordS.calls k1 _ _ (rd_L15 l0 x5_1) x1_1 t337 _ ?side1 ?side2 A5.out).mono ?_);(case side1 => exact Up.Cx HR336_0 HB);(case side2 => exact HC336_0.out);rintro e w7 ⟨rfl,hb⟩;refine ⟨_,rfl,?_⟩;replace HB:=Up.BB HB hb;(try clear hb);(try clear hb2);(try clear hk);(try clear hi)));go_ret;exact Up.e1 (Up.Bup HB)
    ·(rw [if_neg c6] at H);have c6b0:=decide_eq_false c6;clear c6;have H':=Aside0.mk H;clear H;have p336 : 0 ≤ (x5_1 : Int):=Up.od;have q336 : x5_1 < (l0.length : Int):=Up.od;obtain ⟨ad336,A336_0,c336_0,e336,hx336_0,hl336_0,hi336_0⟩:=at_L15 HR0.out x5_1 p336 q336;cases e336;replace hx336_0:=Up.hc HB hx336_0;have HR336_0:=Aside0.mk hi336_0;have HC336_0:=Aside0.mk hl336_0;clear hi336_0 hl336_0;replace p336:=eq_true p336;replace q336:=eq_true q336;go_wp2_with (first | ((with_reducible refine gate_callee (f:=35) rfl ?_);refine Up.gl (some 17) Try.func35 #[.slice A336_0 (rd_L15 l0 x5_1).length c336_0,.int .i64 x1_1] ?_;(with_reducible refine (laws_heldRecordS.calls k1 _ _ (rd_L15 l0 x5_1) x1_1 t337 _ ?side1 ?side2 A5.out).mono ?_);(case side1 => exact Up.Cx HR336_0 HB);(case side2 => exact HC336_0.out);rintro e w8 ⟨rfl,hb⟩;refine ⟨_,rfl,?_⟩;replace HB:=Up.BB HB hb;(try clear hb);(try clear hb2);(try clear hk);(try clear hi)));go_roundg k1
     case measure => have:=HK1.out;omega
     case rel => exact ⟨(t337),(wrap64 (x5_1 + 1)),(by first | rfl | (simp;done) | (simp [*];done)),(by first | rfl | (simp;done) | (simp [*];done)),H',⟨by have:=HK1.out;omega⟩,⟨Up.Bup HB⟩⟩
   ·(rw [if_neg c3] at H);have c3b0:=decide_eq_false c3;clear c3;obtain rfl:=Option.some.inj H;go_wp2;go_ret;exact Up.e1 (Up.Bup HB)

-- NOT PRINTED: function 4 (laws_FnExactShelfKinds)

end Go.Proofs.Ytcdamcfklehedaa.OFnExactShelfKinds
