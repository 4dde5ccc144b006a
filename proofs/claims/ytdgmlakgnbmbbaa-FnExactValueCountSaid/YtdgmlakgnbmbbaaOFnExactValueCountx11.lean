-- Laid by a program of this session (wip/myprint.py): the kit's print of the functions, contracts of our own among them.
import Derived.Test.YtdgmlakgnbmbbaaOFnExactValueCountx0
namespace Go.Proofs.Ytdgmlakgnbmbbaa.OFnExactValueCount
open Go.RowKit Go.Proofs.YtdgmlakgnbmbbaaW.PrintWords Go.Proofs.YtdgmlakgnbmbbaaW.PrintLast Go.Proofs.YtdgmlakgnbmbbaaW.PrintMore
attribute [local go_sem] max2_int min2_int max_two min_two max_three min_three max_four min_four   -- for this text's walks alone
set_option linter.unusedVariables false
set_option linter.unusedSimpArgs false

/-! ### laws_toIntS: function 60 -/
def laws_toIntS.l0 : Nat → List Int → List Int → Int → Option (List Int)
 | 0,_,_,_ => none
 | k + 1,x0,x3,x4 => if x4 < (x0.length : Int) then (if 0 ≤ x4 then (if x4 < (x3.length : Int) then (laws_toIntS.l0 k x0 (x3.set (x4 : Int).toNat (rd x0 x4)) (wrap64 (x4 + 1))) else (none)) else (none)) else (some x3)
def laws_toIntS.f (k : Nat) (l0 : List Int) : Option (List Int):=if 0 ≤ (l0.length : Int) then (if ((l0.length : Int) : Int).toNat ≤ 35184372088832 then (laws_toIntS.l0 k l0 (List.replicate ((l0.length : Int) : Int).toNat 0) 0) else (none)) else (none)
theorem laws_toIntS.mono_l : ∀ k,(∀ y0 y1 y2,LeO (laws_toIntS.l0 k y0 y1 y2) (laws_toIntS.l0 (k + 1) y0 y1 y2))
 | 0 => fun _ _ _ r h => by simp [laws_toIntS.l0] at h
 | k + 1 => by
  have ih0:=laws_toIntS.mono_l k
  ·intro y0 y1 y2
   unfold laws_toIntS.l0
   repeat' first
   | (with_reducible exact ih0 _ _ _)
   | (with_reducible exact LeO.refl _)
   | (with_reducible exact LeO.none _)
   | (with_reducible refine LeO.ite ?_ ?_)
   | (with_reducible refine LeO.bind ?_ (fun _ => ?_))
   | exact ih0 _ _ _
   | exact LeO.none _
   | refine LeO.ite ?_ ?_
   | refine LeO.bind ?_ (fun _ => ?_)
theorem laws_toIntS.mono : ∀ a0 k,LeO (laws_toIntS.f k a0) (laws_toIntS.f (k + 1) a0):=by
 intro a0 k
 have ih0:=laws_toIntS.mono_l k
 unfold laws_toIntS.f
 repeat' first
   | (with_reducible exact ih0 _ _ _)
   | (with_reducible exact LeO.refl _)
   | (with_reducible exact LeO.none _)
   | (with_reducible refine LeO.ite ?_ ?_)
   | (with_reducible refine LeO.bind ?_ (fun _ => ?_))
   | exact ih0 _ _ _
   | exact LeO.none _
   | refine LeO.ite ?_ ?_
   | refine LeO.bind ?_ (fun _ => ?_)
set_option maxHeartbeats 8000000 in
set_option maxRecDepth 100000 in
theorem laws_toIntS.calls (k : Nat) (A0 : Option Addr) (c0 : Nat) (l0 : List Int) (r : List Int) (w : World) (hr0 : Kd.C (Kd.int .i64) w A0 l0.length l0) (hc0 : l0.length ≤ c0) (h : laws_toIntS.f k l0 = some r) :
  Calls Try.prog 60 #[.slice A0 l0.length c0] w fun e w' => ∃ v0_ : Value,e = .returned (v0_) ∧ Kd.R (Kd.int .i64) 3 w' w.heap.size (fun _ => True) v0_ r ∧ Below w.heap.size w w':=by
 have HR0:=Aside0.mk hr0
 have HC0:=Aside0.mk hc0
 clear hr0 hc0
 have HB:=Aside0.mk (Below.refl w.heap.size w)
 have H : (if 0 ≤ (l0.length : Int) then (if ((l0.length : Int) : Int).toNat ≤ 35184372088832 then (laws_toIntS.l0 k l0 (List.replicate ((l0.length : Int) : Int).toNat 0) 0) else (none)) else (none)) = some r:=h
 clear h
 by_cases c2 : 0 ≤ (l0.length : Int)
 ·rw [if_pos c2] at H
  have c2b0:=eq_true c2
  have c2b1 : decide (0 ≤ (l0.length : Int)) = true:=decide_eq_true c2
  clear c2
  by_cases c3 : ((l0.length : Int) : Int).toNat ≤ 35184372088832
  ·rw [if_pos c3] at H
   have c3b0:=eq_true c3
   have c3b1 : decide (((l0.length : Int) : Int).toNat ≤ 35184372088832) = true:=decide_eq_true c3
   clear c3
   obtain ⟨y279,hy279⟩ : ∃ y_ : List Int,y_ = (List.replicate ((l0.length : Int) : Int).toNat 0):=⟨_,rfl⟩
   replace H : (laws_toIntS.l0 k l0 y279 0) = some r:=by first | (rw [hy279];with_reducible exact H) | (have H2_:=(Option.bind_some _ _).symm.trans H;rw [hy279];with_reducible exact H2_) | (have H2_:=(Option.bind_some _ _).symm.trans H;with_reducible exact H2_) | with_reducible exact H | (rw [hy279];exact H) | exact H
   have Ny279:=Aside0.mk hy279
   clear hy279
   have H':=Aside0.mk H
   clear H
   go_enter Try.func60,Try.ntmps60
   go_wp2_with (first | ((with_reducible refine gate_dst (N:=7) rfl ?_);refine Kd.R_make (Kd.int .i64) _ 3 rfl (N:=7) rfl 25 _ _ rfl (l0.length : Int) rfl rfl Try.underlying25 (.int .i64 0) 8 info3 rfl (by decide) (by omega) 0 (ok:=fun _ => True) (okp:=fun _ => True) rfl (fun _ hk => hk) trivial (Up.od) (Nat.le_trans (Nat.mul_le_mul_right _ (Up.od : (l0.length : Int).toNat ≤ 35184372088832)) (by omega)) (Below.refl _ _) (Nat.le_refl _) ?_;intro v280 w4 ho5 hb hg_ hnew_;clear hg_ hnew_;(first | rw [← Ny279.out] at ho5 | (simp only [Int.reduceToNat] at ho5;rw [← Ny279.out] at ho5));have n0_:=Aside0.mk (Kd.R_lower ho5 (below_size (Up.Bup HB)));have n1_:=Up.BB HB hb;clear HB;have HO281:=n0_;have HB:=n1_;clear n0_ n1_ hb ho5))
   go_loopg [4] k (fun kq v4 w' => ∃ (x3_1 : List Int) (x4_1 : Int),v4 = .int .i64 x4_1 ∧ Aside0 (laws_toIntS.l0 kq l0 x3_1 x4_1 = some r) ∧ Aside0 (kq ≤ k) ∧ Aside0 (Kd.R (Kd.int .i64) 3 w' w.heap.size (fun _ => True) v280 x3_1) ∧ Aside0 (Below w.heap.size w w'))
   case atStart => exact ⟨(y279),(0),(by first | rfl | (simp;done) | (simp [*];done)),H',⟨Nat.le_refl _⟩,⟨Up.Rup HO281⟩,⟨Up.Bup HB⟩⟩
   case round =>
    clear H'
    try clear c2
    try clear c2b0
    try clear c2b1
    try clear p2
    try clear c3
    try clear c3b0
    try clear c3b1
    obtain ⟨x3_1,x4_1,rfl,HA,HK1,HO_3,HB⟩:=hrel
    cases gk with
    | zero => exact absurd HA.out (by simp [laws_toIntS.l0])
    | succ k1 =>
     have H:=HA.out
     clear HA
     simp only [laws_toIntS.l0] at H
     by_cases c6 : x4_1 < (l0.length : Int)
     ·rw [if_pos c6] at H
      have c6b0 : decide (x4_1 < (l0.length : Int)) = true:=decide_eq_true c6
      clear c6
      by_cases c7 : 0 ≤ x4_1
      ·rw [if_pos c7] at H
       have c7b0 : decide (0 ≤ x4_1) = true:=decide_eq_true c7
       clear c7
       by_cases c8 : x4_1 < (x3_1.length : Int)
       ·rw [if_pos c8] at H
        have c8b0 : decide (x4_1 < (x3_1.length : Int)) = true:=decide_eq_true c8
        clear c8
        obtain ⟨y283,hy283⟩ : ∃ y_ : List Int,y_ = (x3_1.set (x4_1 : Int).toNat (rd l0 x4_1)):=⟨_,rfl⟩
        replace H : (laws_toIntS.l0 k1 l0 y283 (wrap64 (x4_1 + 1))) = some r:=by first | (rw [hy283];with_reducible exact H) | (have H2_:=(Option.bind_some _ _).symm.trans H;rw [hy283];with_reducible exact H2_) | (have H2_:=(Option.bind_some _ _).symm.trans H;with_reducible exact H2_) | with_reducible exact H | (rw [hy283];exact H) | exact H
        have Ny283:=Aside0.mk hy283
        clear hy283
        have H':=Aside0.mk H
        clear H
        have p282 : 0 ≤ (x4_1 : Int):=Up.od
        have q282 : x4_1 < (l0.length : Int):=Up.od
        obtain ⟨ad282,e282,hx282_0⟩:=Kd.at_int HR0.out x4_1 p282 q282
        cases e282
        replace hx282_0:=Up.hc HB hx282_0
        replace p282:=eq_true p282
        replace q282:=eq_true q282
        have p9 : 0 ≤ (x4_1 : Int):=Up.od
        have q9 : (x4_1 : Int) < ((x3_1.length : Int) : Int):=Up.od
        obtain ⟨go9,co9,eo9,gb9,gl9,cl9,HG9⟩:=Kd.R_form HO_3.out (by omega)
        (first | cases eo9 | (injection eo9 with ea_ en_ ec_;(first | subst ea_ | (injection ea_ with ea_;subst ea_));subst ec_;clear en_))
        have GB9:=Aside0.mk gb9
        have GG9:=Aside0.mk HG9
        clear gb9 gl9 HG9
        obtain ⟨hx9_0,hf9_0⟩:=Kd.R_celln 0 HO_3.out (x4_1 : Int) p9 q9
        replace p9:=eq_true p9
        replace q9:=eq_true q9
        have HP10:=Kd.R_putg HO_3.out (x4_1 : Int) (rd l0 x4_1)
        go_wp2_with (first | ((with_reducible refine gate_store (t:=3) (p:=20) rfl ?_);refine store_event (t:=3) (p:=20) (v:=?vo_w11) (w1:=(wr.setCell ⟨go9,(x4_1 : Int).toNat,none⟩ (.int .i64 (rd l0 x4_1)))) ?hg ?ho ?hn ?hr ?_;(case ho => rfl);(case hg => rfl);(case hn => rfl);(case hr => first | (go_simp;done) | (go_simp;rfl));intro w11 hw;have hg : wr.grownBy w11 (some go9):=(by rw [hw];exact HP10.2);have hp_ : Kd.R (Kd.int .i64) 3 w11 w.heap.size (fun _ => True) (.slice (some ⟨go9,0,none⟩) x3_1.length co9) y283:=(by rw [hw,Ny283.out];exact HP10.1);clear HP10;have n0_:=Aside0.mk (hp_);have n1_:=Aside0.mk ((by rw [hw];exact below_set (HB.out) GB9.out : Below w.heap.size w w11));clear HO_3 HB;have HO_3:=n0_;have HB:=n1_;clear n0_ n1_ hg hw hp_))
        go_roundg k1
        case measure => have:=HK1.out;omega
        case rel => exact ⟨(y283),(wrap64 (x4_1 + 1)),(by first | rfl | (simp;done) | (simp [*];done)),H',⟨by have:=HK1.out;omega⟩,⟨Up.Rup HO_3⟩,⟨Up.Bup HB⟩⟩
       ·rw [if_neg c8] at H
        exact absurd H (by simp)
      ·rw [if_neg c7] at H
       exact absurd H (by simp)
     ·rw [if_neg c6] at H
      have c6b0 : decide (x4_1 < (l0.length : Int)) = false:=decide_eq_false c6
      clear c6
      obtain rfl:=Option.some.inj H
      go_wp2
      go_ret
      exact ⟨_,by first | rfl | (simp [errW_none,errW_some] <;> rfl) | (simp [*,errW_none,errW_some] <;> rfl),Up.Rup HO_3,Up.Bup HB⟩
  ·rw [if_neg c3] at H
   exact absurd H (by simp)
 ·rw [if_neg c2] at H
  exact absurd H (by simp)

/-! ### laws_toValueS: function 59 -/
def laws_toValueS.l0 : Nat → List (S39) → List (S27) → Int → Option ((List (S27)))
 | 0,_,_,_ => none
 | k + 1,x0,x3,x4 => if x4 < (x0.length : Int) then (if 0 ≤ x4 then (((fun (a0_0 : ByteArray) (a0_1 : Int) (l0_2 : List (S39)) (l0_3 : List Int) => ((fun (l0 : List (S39)) => if 0 ≤ (l0.length : Int) then (if ((l0.length : Int) : Int).toNat ≤ 3909374676536 then (laws_toValueS.l0 k l0 (List.replicate ((l0.length : Int) : Int).toNat z27) 0) else (none)) else (none)) l0_2).bind fun t287 => ((laws_toIntS.f k l0_3).bind fun t290 => (some (a0_0,a0_1,t287,t290)))) ((rd_T39 x0 x4).f0) ((rd_T39 x0 x4).f1) ((rd_T39 x0 x4).f2) ((rd_T39 x0 x4).f3)).bind fun bt270 => (if x4 < (x3.length : Int) then (laws_toValueS.l0 k x0 (x3.set (x4 : Int).toNat (⟨bt270.1,bt270.2.1,bt270.2.2.1,bt270.2.2.2⟩ : S27)) (wrap64 (x4 + 1))) else (none))) else (none)) else (some x3)
def laws_toValueS.f (k : Nat) (l0 : List (S39)) : Option ((List (S27))):=if 0 ≤ (l0.length : Int) then (if ((l0.length : Int) : Int).toNat ≤ 3909374676536 then (laws_toValueS.l0 k l0 (List.replicate ((l0.length : Int) : Int).toNat z27) 0) else (none)) else (none)
def laws_toValue.f (k : Nat) (a0_0 : ByteArray) (a0_1 : Int) (l0_2 : List (S39)) (l0_3 : List Int) : Option (ByteArray × Int × (List (S27)) × List Int):=(laws_toValueS.f k l0_2).bind fun t287 => ((laws_toIntS.f k l0_3).bind fun t290 => (some (a0_0,a0_1,t287,t290)))
theorem laws_toValueS.l0_eq (k : Nat) (x0 : List (S39)) (x3 : List (S27)) (x4 : Int) : laws_toValueS.l0 (k + 1) x0 x3 x4 = if x4 < (x0.length : Int) then (if 0 ≤ x4 then ((laws_toValue.f k ((rd_T39 x0 x4).f0) ((rd_T39 x0 x4).f1) ((rd_T39 x0 x4).f2) ((rd_T39 x0 x4).f3)).bind fun bt270 => (if x4 < (x3.length : Int) then (laws_toValueS.l0 k x0 (x3.set (x4 : Int).toNat (⟨bt270.1,bt270.2.1,bt270.2.2.1,bt270.2.2.2⟩ : S27)) (wrap64 (x4 + 1))) else (none))) else (none)) else (some x3):=rfl
theorem laws_toValueS.mono_l : ∀ k,(∀ y0 y1 y2,LeO (laws_toValueS.l0 k y0 y1 y2) (laws_toValueS.l0 (k + 1) y0 y1 y2))
 | 0 => fun _ _ _ r h => by simp [laws_toValueS.l0] at h
 | k + 1 => by
  have ih0:=laws_toValueS.mono_l k
  ·intro y0 y1 y2
   unfold laws_toValueS.l0
   dsimp only
   repeat' first
   | (with_reducible exact ih0 _ _ _)
   | (with_reducible exact laws_toIntS.mono _ _)
   | exact laws_toIntS.mono _ _
   | (with_reducible exact LeO.refl _)
   | (with_reducible exact LeO.none _)
   | (with_reducible refine LeO.ite ?_ ?_)
   | (with_reducible refine LeO.bind ?_ (fun _ => ?_))
   | exact ih0 _ _ _
   | exact LeO.none _
   | refine LeO.ite ?_ ?_
   | refine LeO.bind ?_ (fun _ => ?_)
theorem laws_toValueS.mono : ∀ a0 k,LeO (laws_toValueS.f k a0) (laws_toValueS.f (k + 1) a0):=by
 intro a0 k
 have ih0:=laws_toValueS.mono_l k
 unfold laws_toValueS.f
 repeat' first
   | (with_reducible exact ih0 _ _ _)
   | (with_reducible exact laws_toIntS.mono _ _)
   | exact laws_toIntS.mono _ _
   | (with_reducible exact LeO.refl _)
   | (with_reducible exact LeO.none _)
   | (with_reducible refine LeO.ite ?_ ?_)
   | (with_reducible refine LeO.bind ?_ (fun _ => ?_))
   | exact ih0 _ _ _
   | exact LeO.none _
   | refine LeO.ite ?_ ?_
   | refine LeO.bind ?_ (fun _ => ?_)
theorem laws_toValue.mono : ∀ a0 a1 a2 a3 k,LeO (laws_toValue.f k a0 a1 a2 a3) (laws_toValue.f (k + 1) a0 a1 a2 a3):=by
 intro a0 a1 a2 a3 k
 unfold laws_toValue.f
 repeat' first
   | (with_reducible exact laws_toIntS.mono _ _)
   | (with_reducible exact laws_toValueS.mono _ _)
   | (with_reducible exact LeO.refl _)
   | (with_reducible exact LeO.none _)
   | (with_reducible refine LeO.ite ?_ ?_)
   | (with_reducible refine LeO.bind ?_ (fun _ => ?_))
   | exact laws_toIntS.mono _ _
   | exact laws_toValueS.mono _ _
   | exact LeO.none _
   | refine LeO.ite ?_ ?_
   | refine LeO.bind ?_ (fun _ => ?_)
/-! ### of laws_toValue: function 22 -/
set_option maxHeartbeats 8000000 in
set_option maxRecDepth 100000 in
theorem laws_toValue.calls_of (k : Nat) (hS_ : ∀ (A0 : Option Addr) (c0 : Nat) (l0 : List (S39)) (r : List (S27)) (w : World) (hr0 : Kd.C k39 w A0 l0.length l0) (hc0 : l0.length ≤ c0) (h : laws_toValueS.f k l0 = some r),Calls Try.prog 59 #[.slice A0 l0.length c0] w fun e w' => ∃ v0_ : Value,e = .returned (v0_) ∧ Kd.R k27 27 w' w.heap.size (fun _ => True) v0_ r ∧ Below w.heap.size w w') (a0_0 : ByteArray) (a0_1 : Int) (A0_2 : Option Addr) (c0_2 : Nat) (l0_2 : List (S39)) (A0_3 : Option Addr) (c0_3 : Nat) (l0_3 : List Int) (r1 : ByteArray) (r2 : Int) (r3 : List (S27)) (r4 : List Int) (w : World) (hr0_2 : Kd.C k39 w A0_2 l0_2.length l0_2) (hc0_2 : l0_2.length ≤ c0_2) (hr0_3 : Kd.C (Kd.int .i64) w A0_3 l0_3.length l0_3) (hc0_3 : l0_3.length ≤ c0_3) (h : laws_toValue.f k a0_0 a0_1 l0_2 l0_3 = some (r1,r2,r3,r4)) :
  Calls Try.prog 22 #[.agg #[.string a0_0,.int .i64 a0_1,.slice A0_2 l0_2.length c0_2,.slice A0_3 l0_3.length c0_3]] w fun e w' => ∃ v2_ v3_ : Value,e = .returned (.agg #[.string r1,.int .i64 r2,v2_,v3_]) ∧ Kd.R k27 27 w' w.heap.size (fun k_ => some k_ ≠ (v3_ : Value).ownBlock) v2_ r3 ∧ Kd.R (Kd.int .i64) 3 w' w.heap.size (fun _ => True) v3_ r4 ∧ Below w.heap.size w w':=by
 have hu39:=Try.underlying39
 have hu27:=Try.underlying27
 have HR0_2:=Aside0.mk hr0_2
 have HC0_2:=Aside0.mk hc0_2
 clear hr0_2 hc0_2
 have HR0_3:=Aside0.mk hr0_3
 have HC0_3:=Aside0.mk hc0_3
 clear hr0_3 hc0_3
 have HB:=Aside0.mk (Below.refl w.heap.size w)
 have H : ((laws_toValueS.f k l0_2).bind fun t287 => ((laws_toIntS.f k l0_3).bind fun t290 => (some (a0_0,a0_1,t287,t290)))) = some (r1,r2,r3,r4):=h
 clear h
 replace H:=Option.bind_eq_some_iff.mp H
 obtain ⟨t287,A20,H⟩:=H
 replace H : ((laws_toIntS.f k l0_3).bind fun t290 => (some (a0_0,a0_1,t287,t290))) = some (r1,r2,r3,r4):=H
 have A2:=Aside0.mk A20
 clear A20
 replace H:=Option.bind_eq_some_iff.mp H
 obtain ⟨t290,A30,H⟩:=H
 replace H : (some (a0_0,a0_1,t287,t290)) = some (r1,r2,r3,r4):=H
 have A3:=Aside0.mk A30
 clear A30
 simp only [Option.some.injEq,Prod.mk.injEq] at H
 obtain ⟨rfl,rfl,rfl,rfl⟩:=H
 go_enter Try.func22,Try.ntmps22
 go_wp2_with (first | ((with_reducible refine gate_dst (N:=1) rfl ?_);refine Up.bx 1 39 #[.string a0_0,.int .i64 a0_1,.slice A0_2 l0_2.length c0_2,.slice A0_3 l0_3.length c0_3] ?_;intro gb284 hg w4 hbox hb;have n0_:=Up.BB HB hb;have n1_:=Aside0.mk (hbox);have n2_:=Up.gw hg HB;have n3_:=Up.gw hg HB;clear HB;have HB:=n0_;have BK284:=n1_;have GW284:=n2_;have GE284:=n3_;clear n0_ n1_ n2_ n3_ hb hbox hg) | ((with_reducible refine gate_dst (N:=2) rfl ?_);refine Up.bx 2 27 #[.string (⟨#[]⟩ : ByteArray),.int .i64 0,.slice none 0 0,.slice none 0 0] ?_;intro gb285 hg w5 hbox hb;have n0_:=Up.KB BK284 hb;have n1_:=Aside0.mk (below_step (Up.Bx HB) hb);have n2_:=Aside0.mk (hbox);have n3_:=Up.gw hg HB;have n4_:=Up.gw hg HB;have n5_:=Up.nl hg BK284;have n6_:=Up.ng hg BK284;clear BK284 HB;have BK284:=n0_;have HB:=n1_;have BK285:=n2_;have GW285:=n3_;have GE285:=n4_;have NB284_285:=n5_;have NB285_284:=n6_;clear n0_ n1_ n2_ n3_ n4_ n5_ n6_ hb hbox hg) | ((with_reducible refine gate_dst (N:=3) rfl ?_);refine Up.bx 3 27 #[.string (⟨#[]⟩ : ByteArray),.int .i64 0,.slice none 0 0,.slice none 0 0] ?_;intro gb286 hg w6 hbox hb;have n0_:=Up.KB BK284 hb;have n1_:=Up.KB BK285 hb;have n2_:=Aside0.mk (below_step (Up.Bx HB) hb);have n3_:=Aside0.mk (hbox);have n4_:=Up.gw hg HB;have n5_:=Up.gw hg HB;have n6_:=Up.nl hg BK284;have n7_:=Up.ng hg BK284;have n8_:=Up.nl hg BK285;have n9_:=Up.ng hg BK285;clear BK284 BK285 HB;have BK284:=n0_;have BK285:=n1_;have HB:=n2_;have BK286:=n3_;have GW286:=n4_;have GE286:=n5_;have NB284_286:=n6_;have NB286_284:=n7_;have NB285_286:=n8_;have NB286_285:=n9_;clear n0_ n1_ n2_ n3_ n4_ n5_ n6_ n7_ n8_ n9_ hb hbox hg;have hnb7:=NB284_285.out;have hnc7:=NB285_284.out;have hnb8:=NB284_286.out;have hnc8:=NB286_284.out;have hcz9_0:=Up.c0 BK284;have hcz9_1:=Up.c1 BK284;have hcz9_2:=Up.c2 BK284;have hcz9_3:=Up.c3 BK284;have hfz9_0:=blk_frozen BK284.out 0;have hfz9_1:=blk_frozen BK284.out 1;have hfz9_2:=blk_frozen BK284.out 2;have hfz9_3:=blk_frozen BK284.out 3;have hnb10:=NB286_285.out;have hnc10:=NB285_286.out;have hcz11_0:=Up.c0 BK286;have hcz11_1:=Up.c1 BK286;have hcz11_2:=Up.c2 BK286;have hcz11_3:=Up.c3 BK286;have hfz11_0:=blk_frozen BK286.out 0;have hfz11_1:=blk_frozen BK286.out 1;have hfz11_2:=blk_frozen BK286.out 2;have hfz11_3:=blk_frozen BK286.out 3) | ((with_reducible refine gate_callee (f:=59) rfl ?_);refine Up.gl (some 12) Try.func59 #[.slice A0_2 l0_2.length c0_2] ?_;(with_reducible refine (hS_ _ _ l0_2 t287 _ ?side1 ?side2 A2.out).mono ?_);(case side1 => exact Kd.C_below HR0_2.out (Up.Bx HB));(case side2 => exact HC0_2.out);rintro e w12 ⟨v288,rfl,ho0,hb⟩;refine ⟨_,rfl,?_⟩;have n0_:=Aside0.mk (Kd.R_lower (Kd.R_newB (Kd.R_newB ho0 (g:=gb285) (o:=.cells #[.string (⟨#[]⟩ : ByteArray),.int .i64 0,.slice none 0 0,.slice none 0 0] 27 (0,0)) (Up.Kx BK285)) (g:=gb286) (o:=.cells #[.string a0_0,.int .i64 a0_1,.slice none 0 0,.slice none 0 0] 27 (0,0)) (Up.Kx BK286)) (below_size (Up.Bx HB)));have n1_:=Aside0.mk (blk_below (g:=gb284) (o:=.cells #[.string a0_0,.int .i64 a0_1,.slice A0_2 l0_2.length c0_2,.slice A0_3 l0_3.length c0_3] 39 (0,0)) (Up.Kx BK284) hb);have n2_:=Aside0.mk (blk_below (g:=gb285) (o:=.cells #[.string (⟨#[]⟩ : ByteArray),.int .i64 0,.slice none 0 0,.slice none 0 0] 27 (0,0)) (Up.Kx BK285) hb);have n3_:=Aside0.mk (blk_below (g:=gb286) (o:=.cells #[.string a0_0,.int .i64 a0_1,.slice none 0 0,.slice none 0 0] 27 (0,0)) (Up.Kx BK286) hb);have n4_:=Aside0.mk (below_step (Up.Bx HB) hb);clear BK284 BK285 BK286 HB;have HO289:=n0_;have BK284:=n1_;have BK285:=n2_;have BK286:=n3_;have HB:=n4_;clear n0_ n1_ n2_ n3_ n4_;(try clear hb);(try clear hb2);(try clear hk);(try clear hi);(try clear ho0);obtain ⟨Ao13,co13,eo13⟩:=Kd.R_slice HO289.out;subst eo13;have hcz14_0:=Up.c0 BK286;have hcz14_1:=Up.c1 BK286;have hcz14_2:=Up.c2 BK286;have hcz14_3:=Up.c3 BK286;have hfz14_0:=blk_frozen BK286.out 0;have hfz14_1:=blk_frozen BK286.out 1;have hfz14_2:=blk_frozen BK286.out 2;have hfz14_3:=blk_frozen BK286.out 3;have hcz15_0:=Up.c0 BK284;have hcz15_1:=Up.c1 BK284;have hcz15_2:=Up.c2 BK284;have hcz15_3:=Up.c3 BK284;have hfz15_0:=blk_frozen BK284.out 0;have hfz15_1:=blk_frozen BK284.out 1;have hfz15_2:=blk_frozen BK284.out 2;have hfz15_3:=blk_frozen BK284.out 3) | ((with_reducible refine gate_callee (f:=60) rfl ?_);refine Up.gl (some 16) Try.func60 #[.slice A0_3 l0_3.length c0_3] ?_;(with_reducible refine (laws_toIntS.calls k _ _ l0_3 t290 _ ?side1 ?side2 A3.out).mono ?_);(case side1 => exact Kd.C_below HR0_3.out (Up.Bx HB));(case side2 => exact HC0_3.out);rintro e w16 ⟨v291,rfl,ho0,hb⟩;refine ⟨_,rfl,?_⟩;have n0_:=Aside0.mk (Kd.R_elder' (by (with_reducible repeat (first | apply Kd.R_alloc | apply Kd.R_drewN | apply Kd.R_drew));exact (Kd.R_mono (Kd.R_far (p:=⟨gb286,2,none⟩) (Kd.R_mono HO289.out (fun k_ hk => (⟨hk,hk.2⟩ : _ ∧ k_ ≠ gb286))) (fun _ hk => hk.2) (.slice Ao13 t287.length co13)) (fun _ h_ => h_.1))) (Kd.R_base ho0) hb);have n1_:=Aside0.mk (Kd.R_lower ho0 (below_size (Up.Bx HB)));have n2_:=Aside0.mk (blk_below (g:=gb284) (o:=.cells #[.string a0_0,.int .i64 a0_1,.slice A0_2 l0_2.length c0_2,.slice A0_3 l0_3.length c0_3] 39 (0,0)) (Up.Kx BK284) hb);have n3_:=Aside0.mk (blk_below (g:=gb285) (o:=.cells #[.string (⟨#[]⟩ : ByteArray),.int .i64 0,.slice none 0 0,.slice none 0 0] 27 (0,0)) (Up.Kx BK285) hb);have n4_:=Aside0.mk (blk_below (g:=gb286) (o:=.cells #[.string a0_0,.int .i64 a0_1,.slice Ao13 t287.length co13,.slice none 0 0] 27 (0,0)) (Up.Kx BK286) hb);have n5_:=Aside0.mk (below_step (Up.Bx HB) hb);clear HO289 BK284 BK285 BK286 HB;have HO289:=n0_;have HO292:=n1_;have BK284:=n2_;have BK285:=n3_;have BK286:=n4_;have HB:=n5_;clear n0_ n1_ n2_ n3_ n4_ n5_;(try clear hb);(try clear hb2);(try clear hk);(try clear hi);(try clear ho0);obtain ⟨Ao17,co17,eo17⟩:=Kd.R_slice HO292.out;subst eo17;have hcz18_0:=Up.c0 BK286;have hcz18_1:=Up.c1 BK286;have hcz18_2:=Up.c2 BK286;have hcz18_3:=Up.c3 BK286;have hfz18_0:=blk_frozen BK286.out 0;have hfz18_1:=blk_frozen BK286.out 1;have hfz18_2:=blk_frozen BK286.out 2;have hfz18_3:=blk_frozen BK286.out 3;have hcz19_0:=Up.c0 BK285;have hcz19_1:=Up.c1 BK285;have hcz19_2:=Up.c2 BK285;have hcz19_3:=Up.c3 BK285;have hfz19_0:=blk_frozen BK285.out 0;have hfz19_1:=blk_frozen BK285.out 1;have hfz19_2:=blk_frozen BK285.out 2;have hfz19_3:=blk_frozen BK285.out 3))
 refine bodyPost_ret (results_cell_row rfl _ _ gb285 27 #[.string a0_0,.int .i64 a0_1,.slice Ao13 t287.length co13,.slice Ao17 t290.length co17] (0,0) _ rfl (Up.Kx BK285) Try.underlying27 rfl (by kernel_rfl)) rfl ?_
 exact ⟨_,_,by first | rfl | (simp [errW_none,errW_some] <;> rfl) | (simp [*,errW_none,errW_some] <;> rfl),by (with_reducible repeat (first | apply Kd.R_alloc | apply Kd.R_drewN | apply Kd.R_drew));exact Kd.R_mono (Kd.R_far (p:=⟨gb285,3,none⟩) (Kd.R_far (p:=⟨gb285,2,none⟩) (Kd.R_far (p:=⟨gb285,1,none⟩) (Kd.R_far (p:=⟨gb285,0,none⟩) (Kd.R_far (p:=⟨gb286,3,none⟩) (Kd.R_mono (Kd.R_mono HO289.out (fun k_ hk => (⟨hk,hk.1.2⟩ : _ ∧ k_ ≠ gb286))) (fun k_ hk => (⟨hk,hk.1.1.1.2⟩ : _ ∧ k_ ≠ gb285))) (fun _ hk => hk.1.2) (.slice Ao17 t290.length co17)) (fun _ hk => hk.2) (.string a0_0)) (fun _ hk => hk.2) (.int .i64 a0_1)) (fun _ hk => hk.2) (.slice Ao13 t287.length co13)) (fun _ hk => hk.2) (.slice Ao17 t290.length co17)) (fun _ hk => hk.1.1.2),by (with_reducible repeat (first | apply Kd.R_alloc | apply Kd.R_drewN | apply Kd.R_drew));exact Kd.R_mono (Kd.R_far (p:=⟨gb285,3,none⟩) (Kd.R_far (p:=⟨gb285,2,none⟩) (Kd.R_far (p:=⟨gb285,1,none⟩) (Kd.R_far (p:=⟨gb285,0,none⟩) (Kd.R_far (p:=⟨gb286,3,none⟩) (Kd.R_types (Kd.R_types HO292.out BK286.out (by decide)) BK285.out (by decide)) (fun _ hk => hk.1.2) (.slice Ao17 t290.length co17)) (fun _ hk => hk.2) (.string a0_0)) (fun _ hk => hk.2) (.int .i64 a0_1)) (fun _ hk => hk.2) (.slice Ao13 t287.length co13)) (fun _ hk => hk.2) (.slice Ao17 t290.length co17)) (fun _ hk => trivial),Up.Bx HB⟩
set_option maxHeartbeats 8000000 in
set_option maxRecDepth 100000 in
theorem laws_toValueS.calls (k : Nat) : ∀ (A0 : Option Addr) (c0 : Nat) (l0 : List (S39)) (r : List (S27)) (w : World) (hr0 : Kd.C k39 w A0 l0.length l0) (hc0 : l0.length ≤ c0) (h : laws_toValueS.f k l0 = some r),Calls Try.prog 59 #[.slice A0 l0.length c0] w fun e w' => ∃ v0_ : Value,e = .returned (v0_) ∧ Kd.R k27 27 w' w.heap.size (fun _ => True) v0_ r ∧ Below w.heap.size w w':=by
 refine Nat.strongRecOn (motive:=fun k => ∀ (A0 : Option Addr) (c0 : Nat) (l0 : List (S39)) (r : List (S27)) (w : World) (hr0 : Kd.C k39 w A0 l0.length l0) (hc0 : l0.length ≤ c0) (h : laws_toValueS.f k l0 = some r),Calls Try.prog 59 #[.slice A0 l0.length c0] w fun e w' => ∃ v0_ : Value,e = .returned (v0_) ∧ Kd.R k27 27 w' w.heap.size (fun _ => True) v0_ r ∧ Below w.heap.size w w') k (fun k ihS_ => ?_)
 intro A0 c0 l0 r w hr0 hc0 h
 have hu39:=Try.underlying39
 have hu27:=Try.underlying27
 have HR0:=Aside0.mk hr0
 have HC0:=Aside0.mk hc0
 clear hr0 hc0
 have HB:=Aside0.mk (Below.refl w.heap.size w)
 have H : (if 0 ≤ (l0.length : Int) then (if ((l0.length : Int) : Int).toNat ≤ 3909374676536 then (laws_toValueS.l0 k l0 (List.replicate ((l0.length : Int) : Int).toNat z27) 0) else (none)) else (none)) = some r:=h
 clear h
 by_cases c2 : 0 ≤ (l0.length : Int)
 ·rw [if_pos c2] at H
  have c2b0:=eq_true c2
  have c2b1 : decide (0 ≤ (l0.length : Int)) = true:=decide_eq_true c2
  clear c2
  by_cases c3 : ((l0.length : Int) : Int).toNat ≤ 3909374676536
  ·rw [if_pos c3] at H
   have c3b0:=eq_true c3
   have c3b1 : decide (((l0.length : Int) : Int).toNat ≤ 3909374676536) = true:=decide_eq_true c3
   clear c3
   obtain ⟨y266,hy266⟩ : ∃ y_ : List (S27),y_ = (List.replicate ((l0.length : Int) : Int).toNat z27):=⟨_,rfl⟩
   replace H : (laws_toValueS.l0 k l0 y266 0) = some r:=by first | (rw [hy266];with_reducible exact H) | (have H2_:=(Option.bind_some _ _).symm.trans H;rw [hy266];with_reducible exact H2_) | (have H2_:=(Option.bind_some _ _).symm.trans H;with_reducible exact H2_) | with_reducible exact H | (rw [hy266];exact H) | exact H
   have Ny266:=Aside0.mk hy266
   clear hy266
   have H':=Aside0.mk H
   clear H
   go_enter Try.func59,Try.ntmps59
   go_wp2_with (first | ((with_reducible refine gate_dst (N:=7) rfl ?_);refine Kd.R_make k27 _ 27 rfl (N:=7) rfl 24 _ _ rfl (l0.length : Int) rfl rfl Try.underlying24 (.agg #[(.string ⟨#[]⟩),(.int .i64 0),(.slice none 0 0),(.slice none 0 0)]) 72 info27 rfl (by decide) (by omega) z27 (ok:=fun _ => True) (okp:=fun _ => True) (k27_mkM _ _ _ z27 (Kd.R_nil _ _ _ _ _) (Kd.R_nil _ _ _ _ _)) (fun _ hk => hk) trivial (Up.od) (Nat.le_trans (Nat.mul_le_mul_right _ (Up.od : (l0.length : Int).toNat ≤ 3909374676536)) (by omega)) (Below.refl _ _) (Nat.le_refl _) ?_;intro v267 w4 ho5 hb hg_ hnew_;clear hg_ hnew_;(first | rw [← Ny266.out] at ho5 | (simp only [Int.reduceToNat] at ho5;rw [← Ny266.out] at ho5));have n0_:=Aside0.mk (Kd.R_lower ho5 (below_size (Up.Bup HB)));have n1_:=Up.BB HB hb;clear HB;have HO268:=n0_;have HB:=n1_;clear n0_ n1_ hb ho5))
   go_loopg [4] k (fun kq v4 w' => ∃ (x3_1 : List (S27)) (x4_1 : Int),v4 = .int .i64 x4_1 ∧ Aside0 (laws_toValueS.l0 kq l0 x3_1 x4_1 = some r) ∧ Aside0 (kq ≤ k) ∧ Aside0 (Kd.R k27 27 w' w.heap.size (fun _ => True) v267 x3_1) ∧ Aside0 (Below w.heap.size w w'))
   case atStart => exact ⟨(y266),(0),(by first | rfl | (simp;done) | (simp [*];done)),H',⟨Nat.le_refl _⟩,⟨Up.Rup HO268⟩,⟨Up.Bup HB⟩⟩
   case round =>
    clear H'
    try clear c2
    try clear c2b0
    try clear c2b1
    try clear p2
    try clear c3
    try clear c3b0
    try clear c3b1
    try clear c5
    obtain ⟨x3_1,x4_1,rfl,HA,HK1,HO_3,HB⟩:=hrel
    cases gk with
    | zero => exact absurd HA.out (by simp [laws_toValueS.l0])
    | succ k1 =>
     have H:=HA.out
     clear HA
     simp only [laws_toValueS.l0_eq] at H
     by_cases c6 : x4_1 < (l0.length : Int)
     ·rw [if_pos c6] at H
      have c6b0 : decide (x4_1 < (l0.length : Int)) = true:=decide_eq_true c6
      clear c6
      by_cases c7 : 0 ≤ x4_1
      ·rw [if_pos c7] at H
       have c7b0 : decide (0 ≤ x4_1) = true:=decide_eq_true c7
       clear c7
       replace H:=Option.bind_eq_some_iff.mp H
       obtain ⟨⟨t270,t271,t272,t275⟩,A80,H⟩:=H
       replace H : (if x4_1 < (x3_1.length : Int) then (laws_toValueS.l0 k1 l0 (x3_1.set (x4_1 : Int).toNat (⟨t270,t271,t272,t275⟩ : S27)) (wrap64 (x4_1 + 1))) else (none)) = some r:=H
       have A8:=Aside0.mk A80
       clear A80
       by_cases c9 : x4_1 < (x3_1.length : Int)
       ·rw [if_pos c9] at H
        have c9b0 : decide (x4_1 < (x3_1.length : Int)) = true:=decide_eq_true c9
        clear c9
        obtain ⟨y278,hy278⟩ : ∃ y_ : List (S27),y_ = (x3_1.set (x4_1 : Int).toNat (⟨t270,t271,t272,t275⟩ : S27)):=⟨_,rfl⟩
        replace H : (laws_toValueS.l0 k1 l0 y278 (wrap64 (x4_1 + 1))) = some r:=by first | (rw [hy278];with_reducible exact H) | (have H2_:=(Option.bind_some _ _).symm.trans H;rw [hy278];with_reducible exact H2_) | (have H2_:=(Option.bind_some _ _).symm.trans H;with_reducible exact H2_) | with_reducible exact H | (rw [hy278];exact H) | exact H
        have Ny278:=Aside0.mk hy278
        clear hy278
        have H':=Aside0.mk H
        clear H
        have p269 : 0 ≤ (x4_1 : Int):=Up.od
        have q269 : x4_1 < (l0.length : Int):=Up.od
        obtain ⟨ad269,A269_2,c269_2,A269_3,c269_3,e269,hx269_0,hx269_1,hx269_2,hx269_3,hl269_2,hi269_2,hl269_3,hi269_3⟩:=at_T39 HR0.out x4_1 p269 q269
        cases e269
        replace hx269_0:=Up.hc HB hx269_0
        replace hx269_1:=Up.hc HB hx269_1
        replace hx269_2:=Up.hc HB hx269_2
        replace hx269_3:=Up.hc HB hx269_3
        have HR269_2:=Aside0.mk hi269_2
        have HC269_2:=Aside0.mk hl269_2
        clear hi269_2 hl269_2
        have HR269_3:=Aside0.mk hi269_3
        have HC269_3:=Aside0.mk hl269_3
        clear hi269_3 hl269_3
        replace p269:=eq_true p269
        replace q269:=eq_true q269
        go_wp2_with (first | ((with_reducible refine gate_callee (f:=22) rfl ?_);refine Up.gl (some 20) Try.func22 #[.agg #[.string ((rd_T39 l0 x4_1).f0),.int .i64 ((rd_T39 l0 x4_1).f1),.slice A269_2 ((rd_T39 l0 x4_1).f2).length c269_2,.slice A269_3 ((rd_T39 l0 x4_1).f3).length c269_3]] ?_;(with_reducible refine (laws_toValue.calls_of k1 (ihS_ k1 (by have h_:=HK1.out;omega)) ((rd_T39 l0 x4_1).f0) ((rd_T39 l0 x4_1).f1) _ _ ((rd_T39 l0 x4_1).f2) _ _ ((rd_T39 l0 x4_1).f3) t270 t271 t272 t275 _ ?side1 ?side2 ?side3 ?side4 A8.out).mono ?_);(case side1 => exact Up.Cx HR269_2 HB);(case side2 => exact HC269_2.out);(case side3 => exact Up.Cx HR269_3 HB);(case side4 => exact HC269_3.out);rintro e w11 ⟨v273,v276,rfl,ho0,ho1,hb⟩;refine ⟨_,rfl,?_⟩;have n0_:=Aside0.mk (Kd.R_mono (Kd.R_told (Kd.R_told (Kd.R_old (Up.Rup HO_3) hb) (Kd.R_base ho0)) (Kd.R_base ho1)) (fun _ h_ => h_.1));have n1_:=Aside0.mk (Kd.R_lower (Kd.R_new' ho0 (Kd.R_lt (Up.Rup HO_3))) (below_size (Up.Bup HB)));have n2_:=Aside0.mk (Kd.R_lower ho1 (below_size (Up.Bup HB)));have n3_:=Up.BB HB hb;clear HO_3 HB;have HO_3:=n0_;have HO274:=n1_;have HO277:=n2_;have HB:=n3_;clear n0_ n1_ n2_ n3_;(try clear hb);(try clear hb2);(try clear hk);(try clear hi);(try clear ho0);(try clear ho1);(have hsvv273_ : ∀ (a_ : Addr) (m_ : Mode) (W_ : World),(Go.store a_ v273 m_).run Try.prog W_ = stored Try.prog W_ a_ v273 m_:=fun a_ m_ W_ => run_store _ W_ a_ _ m_ (by first | (obtain ⟨_,_,e_⟩:=Kd.R_slice HO274.out;rw [e_];rfl) | (obtain ⟨_,_,e_⟩:=Kd.R_slice (Kd.S_R HO274.out);rw [e_];rfl)));(have hcvv273_ : (v273 : Value).cells = #[v273]:=(by first | (obtain ⟨_,_,e_⟩:=Kd.R_slice HO274.out;rw [e_];rfl) | (obtain ⟨_,_,e_⟩:=Kd.R_slice (Kd.S_R HO274.out);rw [e_];rfl)));(have hsvv276_ : ∀ (a_ : Addr) (m_ : Mode) (W_ : World),(Go.store a_ v276 m_).run Try.prog W_ = stored Try.prog W_ a_ v276 m_:=fun a_ m_ W_ => run_store _ W_ a_ _ m_ (by first | (obtain ⟨_,_,e_⟩:=Kd.R_slice HO277.out;rw [e_];rfl) | (obtain ⟨_,_,e_⟩:=Kd.R_slice (Kd.S_R HO277.out);rw [e_];rfl)));(have hcvv276_ : (v276 : Value).cells = #[v276]:=(by first | (obtain ⟨_,_,e_⟩:=Kd.R_slice HO277.out;rw [e_];rfl) | (obtain ⟨_,_,e_⟩:=Kd.R_slice (Kd.S_R HO277.out);rw [e_];rfl)));have p10 : 0 ≤ (x4_1 : Int):=Up.od;have q10 : (x4_1 : Int) < ((x3_1.length : Int) : Int):=Up.od;obtain ⟨go10,co10,eo10,gb10,gl10,cl10,HG10⟩:=Kd.R_form HO_3.out (by omega);(first | cases eo10 | (injection eo10 with ea_ en_ ec_;(first | subst ea_ | (injection ea_ with ea_;subst ea_));subst ec_;clear en_));have GB10:=Aside0.mk gb10;have GG10:=Aside0.mk HG10;clear gb10 gl10 HG10;obtain ⟨ce10,hcl10,hM10,hcc10,hfr10⟩:=Kd.R_elem HO_3.out z27 (x4_1 : Int) p10 q10;obtain ⟨ve10_2,ve10_3,rfl,ge10_2,ge10_3⟩:=k27_openM hM10;have hx10_0 : w11.cell? ⟨go10,(x4_1 : Int).toNat * 4,none⟩ = some (.string ((rd_T27 x3_1 x4_1).f0)):=hcc10 0 _ rfl;have hx10_1 : w11.cell? ⟨go10,(x4_1 : Int).toNat * 4 + 1,none⟩ = some (.int .i64 ((rd_T27 x3_1 x4_1).f1)):=hcc10 1 _ rfl;have hx10_2 : w11.cell? ⟨go10,(x4_1 : Int).toNat * 4 + 2,none⟩ = some (ve10_2):=hcc10 2 _ rfl;have hx10_3 : w11.cell? ⟨go10,(x4_1 : Int).toNat * 4 + 3,none⟩ = some (ve10_3):=hcc10 3 _ rfl;have hf10_0 : w11.frozen? ⟨go10,(x4_1 : Int).toNat * 4,none⟩ = false:=hfr10 0;have hf10_1 : w11.frozen? ⟨go10,(x4_1 : Int).toNat * 4 + 1,none⟩ = false:=hfr10 1;have hf10_2 : w11.frozen? ⟨go10,(x4_1 : Int).toNat * 4 + 2,none⟩ = false:=hfr10 2;have hf10_3 : w11.frozen? ⟨go10,(x4_1 : Int).toNat * 4 + 3,none⟩ = false:=hfr10 3;clear hcl10 hcc10 hfr10 hM10;replace p10:=eq_true p10;replace q10:=eq_true q10;have n_:=Aside0.mk (Kd.R_mono (ok':=(fun k_ => some k_ ≠ (v273 : Value).ownBlock ∧ some k_ ≠ (v276 : Value).ownBlock)) HO_3.out (fun k_ hk => ⟨hk.1.2,hk.2⟩));clear HO_3;have HO_3:=n_;clear n_;have HX12:=Aside0.mk (show Kd.R k27 27 w11 w.heap.size (fun _ => True) (.slice (some ⟨go10,0,none⟩) x3_1.length co10) x3_1 from (Up.Rq (Kd.R_mono HO_3.out (fun _ hk => trivial))));obtain ⟨ce12,hcl12,hM12,hcc12,hfr12⟩:=Kd.R_elem HX12.out z27 (x4_1 : Int) (Up.od) (by have h_ : (x4_1 : Int) < ((x3_1.length : Int) : Int):=Up.od;first | exact h_ | (have e_:=(Kd.R_reads' HO_3.out).1;omega) | simpa using h_);obtain ⟨ve12_2,ve12_3,rfl,ge12_2,ge12_3⟩:=k27_openM hM12;have HP12:=Kd.R_seg HX12.out (x4_1 : Int) (Up.od) (by have h_ : (x4_1 : Int) < ((x3_1.length : Int) : Int):=Up.od;first | exact h_ | (have e_:=(Kd.R_reads' HO_3.out).1;omega) | simpa using h_) (seg:=[.string t270,.int .i64 t271,v273,v276]) (j:=0) hcl12 hcc12 (show 4 ≤ 4 from by decide) (x':=(⟨t270,t271,t272,t275⟩ : S27)) (k27_mkM _ _ _ (⟨t270,t271,t272,t275⟩ : S27) (Kd.R_mono (HO274.out) (fun k_ hk => ⟨trivial,fun e_ => (hk.2) (by rw [e_];rfl)⟩)) (Kd.R_mono (Kd.R_apart' (HO277.out) (Kd.R_typed HO_3.out) (by decide)) (fun k_ hk => ⟨trivial,fun e_ => (hk.2) (by rw [e_];rfl)⟩))) (fun _ hk => hk);have hx12_0:=hcc12 0 _ rfl;(try simp only [show (k27).sz = 4 from rfl,Nat.mul_one,Nat.add_zero] at hx12_0);have hf12_0:=hfr12 0;(try simp only [show (k27).sz = 4 from rfl,Nat.mul_one,Nat.add_zero] at hf12_0);have hx12_1:=hcc12 1 _ rfl;(try simp only [show (k27).sz = 4 from rfl,Nat.mul_one,Nat.add_zero] at hx12_1);have hf12_1:=hfr12 1;(try simp only [show (k27).sz = 4 from rfl,Nat.mul_one,Nat.add_zero] at hf12_1);have hx12_2:=hcc12 2 _ rfl;(try simp only [show (k27).sz = 4 from rfl,Nat.mul_one,Nat.add_zero] at hx12_2);have hf12_2:=hfr12 2;(try simp only [show (k27).sz = 4 from rfl,Nat.mul_one,Nat.add_zero] at hf12_2);have hx12_3:=hcc12 3 _ rfl;(try simp only [show (k27).sz = 4 from rfl,Nat.mul_one,Nat.add_zero] at hx12_3);have hf12_3:=hfr12 3;(try simp only [show (k27).sz = 4 from rfl,Nat.mul_one,Nat.add_zero] at hf12_3);clear hcl12 hcc12 hfr12 hM12) | ((with_reducible refine gate_store (t:=27) (p:=21) rfl ?_);refine store_event (t:=27) (p:=21) (v:=?vo_w13) (w1:=((((w11.setCell ⟨go10,(x4_1 : Int).toNat * 4,none⟩ (.string t270)).setCell ⟨go10,(x4_1 : Int).toNat * 4 + 1,none⟩ (.int .i64 t271)).setCell ⟨go10,(x4_1 : Int).toNat * 4 + 2,none⟩ (v273)).setCell ⟨go10,(x4_1 : Int).toNat * 4 + 3,none⟩ (v276))) ?hg ?ho ?hn ?hr ?_;(case ho => rfl);(case hg => rfl);(case hn => rfl);(case hr => first | (go_simp;done) | (go_simp;rfl));intro w13 hw;have hg : w11.grownBy w13 (some go10):=(by rw [hw];exact HP12.2);have hp_ : Kd.R k27 27 w13 w.heap.size (fun _ => True) (.slice (some ⟨go10,0,none⟩) x3_1.length co10) y278:=(by rw [hw,Ny278.out];exact HP12.1);clear HP12;have n0_:=Aside0.mk (hp_);have n1_:=Aside0.mk ((by rw [hw];exact below_set (below_set (below_set (below_set (HB.out) GB10.out) GB10.out) GB10.out) GB10.out : Below w.heap.size w w13));clear HO_3 HB HO274 HO277;have HO_3:=n0_;have HB:=n1_;clear n0_ n1_ hg hw hp_))
        go_roundg k1
        case measure => have:=HK1.out;omega
        case rel => exact ⟨(y278),(wrap64 (x4_1 + 1)),(by first | rfl | (simp;done) | (simp [*];done)),H',⟨by have:=HK1.out;omega⟩,⟨Up.Rup HO_3⟩,⟨Up.Bup HB⟩⟩
       ·rw [if_neg c9] at H
        exact absurd H (by simp)
      ·rw [if_neg c7] at H
       exact absurd H (by simp)
     ·rw [if_neg c6] at H
      have c6b0 : decide (x4_1 < (l0.length : Int)) = false:=decide_eq_false c6
      clear c6
      obtain rfl:=Option.some.inj H
      go_wp2
      go_ret
      exact ⟨_,by first | rfl | (simp [errW_none,errW_some] <;> rfl) | (simp [*,errW_none,errW_some] <;> rfl),Up.Rup HO_3,Up.Bup HB⟩
  ·rw [if_neg c3] at H
   exact absurd H (by simp)
 ·rw [if_neg c2] at H
  exact absurd H (by simp)
theorem laws_toValue.calls (k : Nat) (a0_0 : ByteArray) (a0_1 : Int) (A0_2 : Option Addr) (c0_2 : Nat) (l0_2 : List (S39)) (A0_3 : Option Addr) (c0_3 : Nat) (l0_3 : List Int) (r1 : ByteArray) (r2 : Int) (r3 : List (S27)) (r4 : List Int) (w : World) (hr0_2 : Kd.C k39 w A0_2 l0_2.length l0_2) (hc0_2 : l0_2.length ≤ c0_2) (hr0_3 : Kd.C (Kd.int .i64) w A0_3 l0_3.length l0_3) (hc0_3 : l0_3.length ≤ c0_3) (h : laws_toValue.f k a0_0 a0_1 l0_2 l0_3 = some (r1,r2,r3,r4)) :
  Calls Try.prog 22 #[.agg #[.string a0_0,.int .i64 a0_1,.slice A0_2 l0_2.length c0_2,.slice A0_3 l0_3.length c0_3]] w fun e w' => ∃ v2_ v3_ : Value,e = .returned (.agg #[.string r1,.int .i64 r2,v2_,v3_]) ∧ Kd.R k27 27 w' w.heap.size (fun k_ => some k_ ≠ (v3_ : Value).ownBlock) v2_ r3 ∧ Kd.R (Kd.int .i64) 3 w' w.heap.size (fun _ => True) v3_ r4 ∧ Below w.heap.size w w':=laws_toValue.calls_of k (laws_toValueS.calls k) a0_0 a0_1 A0_2 c0_2 l0_2 A0_3 c0_3 l0_3 r1 r2 r3 r4 w hr0_2 hc0_2 hr0_3 hc0_3 h

/-! ### laws_eqStringS: function 118 -/
def laws_eqStringS.l0 : Nat → List ByteArray → List ByteArray → Int → Option (Bool)
 | 0,_,_,_ => none
 | k + 1,x0,x1,x5 => if x5 < (x0.length : Int) then (if 0 ≤ x5 then (if x5 < (x1.length : Int) then (if (rdOf ByteArray.empty x0 x5).toList = (rdOf ByteArray.empty x1 x5).toList then (laws_eqStringS.l0 k x0 x1 (wrap64 (x5 + 1))) else (some false)) else (none)) else (none)) else (some true)
def laws_eqStringS.f (k : Nat) (l0 : List ByteArray) (l1 : List ByteArray) : Option (Bool):=if (l0.length : Int) = (l1.length : Int) then (laws_eqStringS.l0 k l0 l1 0) else (some false)
theorem laws_eqStringS.mono_l : ∀ k,(∀ y0 y1 y2,LeO (laws_eqStringS.l0 k y0 y1 y2) (laws_eqStringS.l0 (k + 1) y0 y1 y2))
 | 0 => fun _ _ _ r h => by simp [laws_eqStringS.l0] at h
 | k + 1 => by
  have ih0:=laws_eqStringS.mono_l k
  ·intro y0 y1 y2
   unfold laws_eqStringS.l0
   repeat' first
   | (with_reducible exact ih0 _ _ _)
   | (with_reducible exact LeO.refl _)
   | (with_reducible exact LeO.none _)
   | (with_reducible refine LeO.ite ?_ ?_)
   | (with_reducible refine LeO.bind ?_ (fun _ => ?_))
   | exact ih0 _ _ _
   | exact LeO.none _
   | refine LeO.ite ?_ ?_
   | refine LeO.bind ?_ (fun _ => ?_)
theorem laws_eqStringS.mono : ∀ a0 a1 k,LeO (laws_eqStringS.f k a0 a1) (laws_eqStringS.f (k + 1) a0 a1):=by
 intro a0 a1 k
 have ih0:=laws_eqStringS.mono_l k
 unfold laws_eqStringS.f
 repeat' first
   | (with_reducible exact ih0 _ _ _)
   | (with_reducible exact LeO.refl _)
   | (with_reducible exact LeO.none _)
   | (with_reducible refine LeO.ite ?_ ?_)
   | (with_reducible refine LeO.bind ?_ (fun _ => ?_))
   | exact ih0 _ _ _
   | exact LeO.none _
   | refine LeO.ite ?_ ?_
   | refine LeO.bind ?_ (fun _ => ?_)
set_option maxHeartbeats 8000000 in
set_option maxRecDepth 100000 in
theorem laws_eqStringS.calls (k : Nat) (A0 : Option Addr) (c0 : Nat) (l0 : List ByteArray) (A1 : Option Addr) (c1 : Nat) (l1 : List ByteArray) (r : Bool) (w : World) (hr0 : Kd.C Kd.string w A0 l0.length l0) (hc0 : l0.length ≤ c0) (hr1 : Kd.C Kd.string w A1 l1.length l1) (hc1 : l1.length ≤ c1) (h : laws_eqStringS.f k l0 l1 = some r) :
  Calls Try.prog 118 #[.slice A0 l0.length c0,.slice A1 l1.length c1] w fun e w' => e = .returned (.bool r) ∧ Drawn0 w w':=by
 have HR0:=Aside0.mk hr0
 have HC0:=Aside0.mk hc0
 clear hr0 hc0
 have HR1:=Aside0.mk hr1
 have HC1:=Aside0.mk hc1
 clear hr1 hc1
 have H : (if (l0.length : Int) = (l1.length : Int) then (laws_eqStringS.l0 k l0 l1 0) else (some false)) = some r:=h
 clear h
 by_cases c3 : (l0.length : Int) = (l1.length : Int)
 ·rw [if_pos c3] at H
  have c3b0 : ((l0.length : Int) == (l1.length : Int)) = true:=beq_iff_eq.mpr c3
  have c3b1 : ((l0.length : Int) != (l1.length : Int)) = false:=bne_eq_false_iff_eq.mpr c3
  have c3b2 : (l0.length == l1.length) = true:=by first | simpa using c3 | (simp at c3 ⊢;omega)
  clear c3
  have H':=Aside0.mk H
  clear H
  go_enter Try.func118,Try.ntmps118
  go_wp2
  repeat (go_quiet (fail);try go_wp2)
  go_loopg [5] k (fun kq v5 w' => ∃ (x5_1 : Int),v5 = .int .i64 x5_1 ∧ Aside0 (laws_eqStringS.l0 kq l0 l1 x5_1 = some r) ∧ Aside0 (kq ≤ k) ∧ Drawn0 w w')
  case atStart => exact ⟨(0),(by first | rfl | (simp;done) | (simp [*];done)),H',⟨Nat.le_refl _⟩,by repeat (first | exact Drawn0.refl _ | apply Drawn0.step)⟩
  case round =>
   clear H'
   try clear c1
   try clear p2
   try clear c3
   try clear c3b0
   try clear c3b1
   try clear c3b2
   obtain ⟨x5_1,rfl,HA,HK1,⟨m1,rfl⟩⟩:=hrel
   cases gk with
   | zero => exact absurd HA.out (by simp [laws_eqStringS.l0])
   | succ k1 =>
    have H:=HA.out
    clear HA
    simp only [laws_eqStringS.l0] at H
    by_cases c4 : x5_1 < (l0.length : Int)
    ·rw [if_pos c4] at H
     have c4b0 : decide (x5_1 < (l0.length : Int)) = true:=decide_eq_true c4
     clear c4
     by_cases c5 : 0 ≤ x5_1
     ·rw [if_pos c5] at H
      have c5b0 : decide (0 ≤ x5_1) = true:=decide_eq_true c5
      clear c5
      by_cases c6 : x5_1 < (l1.length : Int)
      ·rw [if_pos c6] at H
       have c6b0 : decide (x5_1 < (l1.length : Int)) = true:=decide_eq_true c6
       clear c6
       by_cases c7 : (rdOf ByteArray.empty l0 x5_1).toList = (rdOf ByteArray.empty l1 x5_1).toList
       ·rw [if_pos c7] at H
        have c7b0 : ((rdOf ByteArray.empty l0 x5_1).toList == (rdOf ByteArray.empty l1 x5_1).toList) = true:=beq_iff_eq.mpr c7
        have c7b1 : ((rdOf ByteArray.empty l0 x5_1).toList != (rdOf ByteArray.empty l1 x5_1).toList) = false:=bne_eq_false_iff_eq.mpr c7
        clear c7
        have H':=Aside0.mk H
        clear H
        have p293 : 0 ≤ (x5_1 : Int):=Up.od
        have q293 : x5_1 < (l0.length : Int):=Up.od
        obtain ⟨ad293,e293,hx293_0⟩:=Kd.at_string HR0.out x5_1 p293 q293
        cases e293
        replace p293:=eq_true p293
        replace q293:=eq_true q293
        have p294 : 0 ≤ (x5_1 : Int):=Up.od
        have q294 : x5_1 < (l1.length : Int):=Up.od
        obtain ⟨ad294,e294,hx294_0⟩:=Kd.at_string HR1.out x5_1 p294 q294
        cases e294
        replace p294:=eq_true p294
        replace q294:=eq_true q294
        go_wp2
        repeat (go_quiet (fail);try go_wp2)
        go_roundg k1
        case measure => have:=HK1.out;omega
        case rel => exact ⟨(wrap64 (x5_1 + 1)),(by first | rfl | (simp;done) | (simp [*];done)),H',⟨by have:=HK1.out;omega⟩,by repeat (first | exact Drawn0.refl _ | apply Drawn0.step)⟩
       ·rw [if_neg c7] at H
        have c7b0 : ((rdOf ByteArray.empty l0 x5_1).toList == (rdOf ByteArray.empty l1 x5_1).toList) = false:=beq_eq_false_iff_ne.mpr c7
        have c7b1 : ((rdOf ByteArray.empty l0 x5_1).toList != (rdOf ByteArray.empty l1 x5_1).toList) = true:=bne_iff_ne.mpr c7
        obtain rfl:=Option.some.inj H
        have p293 : 0 ≤ (x5_1 : Int):=Up.od
        have q293 : x5_1 < (l0.length : Int):=Up.od
        obtain ⟨ad293,e293,hx293_0⟩:=Kd.at_string HR0.out x5_1 p293 q293
        cases e293
        replace p293:=eq_true p293
        replace q293:=eq_true q293
        have p294 : 0 ≤ (x5_1 : Int):=Up.od
        have q294 : x5_1 < (l1.length : Int):=Up.od
        obtain ⟨ad294,e294,hx294_0⟩:=Kd.at_string HR1.out x5_1 p294 q294
        cases e294
        replace p294:=eq_true p294
        replace q294:=eq_true q294
        go_wp2
        repeat (go_quiet (fail);try go_wp2)
        go_ret
        exact Up.e2
      ·rw [if_neg c6] at H
       exact absurd H (by simp)
     ·rw [if_neg c5] at H
      exact absurd H (by simp)
    ·rw [if_neg c4] at H
     have c4b0 : decide (x5_1 < (l0.length : Int)) = false:=decide_eq_false c4
     clear c4
     obtain rfl:=Option.some.inj H
     go_wp2
     repeat (go_quiet (fail);try go_wp2)
     go_ret
     exact Up.e2
 ·rw [if_neg c3] at H
  have c3b0 : ((l0.length : Int) == (l1.length : Int)) = false:=beq_eq_false_iff_ne.mpr c3
  have c3b1 : ((l0.length : Int) != (l1.length : Int)) = true:=bne_iff_ne.mpr c3
  have c3b2 : (l0.length == l1.length) = false:=by first | simpa using c3 | (simp at c3 ⊢;omega)
  obtain rfl:=Option.some.inj H
  go_enter Try.func118,Try.ntmps118
  go_wp2
  repeat (go_quiet (fail);try go_wp2)
  go_ret
  exact Up.e2

/-! ### laws_eqRecord: function 99 -/
def laws_eqRecord.f (k : Nat) (a0_0 : Int) (l0_1 : List ByteArray) (a1_0 : Int) (l1_1 : List ByteArray) : Option (Bool):=if a0_0 = a1_0 then ((laws_eqStringS.f k l0_1 l1_1).bind fun t297 => (if t297 = true then (some true) else (some false))) else (some false)
theorem laws_eqRecord.mono : ∀ a0 a1 a2 a3 k,LeO (laws_eqRecord.f k a0 a1 a2 a3) (laws_eqRecord.f (k + 1) a0 a1 a2 a3):=by
 intro a0 a1 a2 a3 k
 unfold laws_eqRecord.f
 repeat' first
   | (with_reducible exact laws_eqStringS.mono _ _ _)
   | (with_reducible exact LeO.refl _)
   | (with_reducible exact LeO.none _)
   | (with_reducible refine LeO.ite ?_ ?_)
   | (with_reducible refine LeO.bind ?_ (fun _ => ?_))
   | exact laws_eqStringS.mono _ _ _
   | exact LeO.none _
   | refine LeO.ite ?_ ?_
   | refine LeO.bind ?_ (fun _ => ?_)
set_option maxHeartbeats 8000000 in
set_option maxRecDepth 100000 in
theorem laws_eqRecord.calls (k : Nat) (a0_0 : Int) (A0_1 : Option Addr) (c0_1 : Nat) (l0_1 : List ByteArray) (a1_0 : Int) (A1_1 : Option Addr) (c1_1 : Nat) (l1_1 : List ByteArray) (r : Bool) (w : World) (hr0_1 : Kd.C Kd.string w A0_1 l0_1.length l0_1) (hc0_1 : l0_1.length ≤ c0_1) (hr1_1 : Kd.C Kd.string w A1_1 l1_1.length l1_1) (hc1_1 : l1_1.length ≤ c1_1) (h : laws_eqRecord.f k a0_0 l0_1 a1_0 l1_1 = some r) :
  Calls Try.prog 99 #[.agg #[.int .i64 a0_0,.slice A0_1 l0_1.length c0_1],.agg #[.int .i64 a1_0,.slice A1_1 l1_1.length c1_1]] w fun e w' => e = .returned (.bool r) ∧ Below w.heap.size w w':=by
 have hu113:=Try.underlying113
 have HR0_1:=Aside0.mk hr0_1
 have HC0_1:=Aside0.mk hc0_1
 clear hr0_1 hc0_1
 have HR1_1:=Aside0.mk hr1_1
 have HC1_1:=Aside0.mk hc1_1
 clear hr1_1 hc1_1
 have HB:=Aside0.mk (Below.refl w.heap.size w)
 have H : (if a0_0 = a1_0 then ((laws_eqStringS.f k l0_1 l1_1).bind fun t297 => (if t297 = true then (some true) else (some false))) else (some false)) = some r:=h
 clear h
 by_cases c3 : a0_0 = a1_0
 ·rw [if_pos c3] at H
  have c3b0 : (a0_0 == a1_0) = true:=beq_iff_eq.mpr c3
  have c3b1 : (a0_0 != a1_0) = false:=bne_eq_false_iff_eq.mpr c3
  clear c3
  replace H:=Option.bind_eq_some_iff.mp H
  obtain ⟨t297,A40,H⟩:=H
  replace H : (if t297 = true then (some true) else (some false)) = some r:=H
  have A4:=Aside0.mk A40
  clear A40
  by_cases c5 : t297 = true
  ·subst c5
   have H1 : (some true) = some r:=by rw [if_pos rfl] at H;exact H
   clear H
   have H:=H1
   clear H1
   obtain rfl:=Option.some.inj H
   go_enter Try.func99,Try.ntmps99
   go_wp2_with (first | ((with_reducible refine gate_dst (N:=2) rfl ?_);refine Up.bx 2 113 #[.int .i64 a0_0,.slice A0_1 l0_1.length c0_1] ?_;intro gb295 hg w6 hbox hb;have n0_:=Up.BB HB hb;have n1_:=Aside0.mk (hbox);have n2_:=Up.gw hg HB;have n3_:=Up.gw hg HB;clear HB;have HB:=n0_;have BK295:=n1_;have GW295:=n2_;have GE295:=n3_;clear n0_ n1_ n2_ n3_ hb hbox hg) | ((with_reducible refine gate_dst (N:=3) rfl ?_);refine Up.bx 3 113 #[.int .i64 a1_0,.slice A1_1 l1_1.length c1_1] ?_;intro gb296 hg w7 hbox hb;have n0_:=Up.KB BK295 hb;have n1_:=Aside0.mk (below_step (Up.Bx HB) hb);have n2_:=Aside0.mk (hbox);have n3_:=Up.gw hg HB;have n4_:=Up.gw hg HB;have n5_:=Up.nl hg BK295;have n6_:=Up.ng hg BK295;clear BK295 HB;have BK295:=n0_;have HB:=n1_;have BK296:=n2_;have GW296:=n3_;have GE296:=n4_;have NB295_296:=n5_;have NB296_295:=n6_;clear n0_ n1_ n2_ n3_ n4_ n5_ n6_ hb hbox hg;have hnb8:=NB295_296.out;have hnc8:=NB296_295.out;have hcz9_0:=Up.c0 BK295;have hcz9_1:=Up.c1 BK295;have hfz9_0:=blk_frozen BK295.out 0;have hfz9_1:=blk_frozen BK295.out 1;have hcz10_0:=Up.c0 BK296;have hcz10_1:=Up.c1 BK296;have hfz10_0:=blk_frozen BK296.out 0;have hfz10_1:=blk_frozen BK296.out 1) | ((with_reducible refine gate_callee (f:=118) rfl ?_);refine Up.gl (some 14) Try.func118 #[.slice A0_1 l0_1.length c0_1,.slice A1_1 l1_1.length c1_1] ?_;(with_reducible refine (laws_eqStringS.calls k _ _ l0_1 _ _ l1_1 true _ ?side1 ?side2 ?side3 ?side4 A4.out).mono ?_);(case side1 => exact Up.Cx HR0_1 HB);(case side2 => exact HC0_1.out);(case side3 => exact Up.Cx HR1_1 HB);(case side4 => exact HC1_1.out);rintro e w' ⟨rfl,⟨nd,rfl⟩⟩;refine ⟨_,rfl,?_⟩))
   go_ret
   exact Up.e1 (Up.Bx HB)
  ·replace c5:=Bool.eq_false_iff.mpr c5
   subst c5
   have H1 : (some false) = some r:=by rw [if_neg (show ¬ (false = true) by decide)] at H;exact H
   clear H
   have H:=H1
   clear H1
   obtain rfl:=Option.some.inj H
   go_enter Try.func99,Try.ntmps99
   go_wp2_with (first | ((with_reducible refine gate_dst (N:=2) rfl ?_);refine Up.bx 2 113 #[.int .i64 a0_0,.slice A0_1 l0_1.length c0_1] ?_;intro gb295 hg w11 hbox hb;have n0_:=Up.BB HB hb;have n1_:=Aside0.mk (hbox);have n2_:=Up.gw hg HB;have n3_:=Up.gw hg HB;clear HB;have HB:=n0_;have BK295:=n1_;have GW295:=n2_;have GE295:=n3_;clear n0_ n1_ n2_ n3_ hb hbox hg) | ((with_reducible refine gate_dst (N:=3) rfl ?_);refine Up.bx 3 113 #[.int .i64 a1_0,.slice A1_1 l1_1.length c1_1] ?_;intro gb296 hg w12 hbox hb;have n0_:=Up.KB BK295 hb;have n1_:=Aside0.mk (below_step (Up.Bx HB) hb);have n2_:=Aside0.mk (hbox);have n3_:=Up.gw hg HB;have n4_:=Up.gw hg HB;have n5_:=Up.nl hg BK295;have n6_:=Up.ng hg BK295;clear BK295 HB;have BK295:=n0_;have HB:=n1_;have BK296:=n2_;have GW296:=n3_;have GE296:=n4_;have NB295_296:=n5_;have NB296_295:=n6_;clear n0_ n1_ n2_ n3_ n4_ n5_ n6_ hb hbox hg;have hnb13:=NB295_296.out;have hnc13:=NB296_295.out;have hcz14_0:=Up.c0 BK295;have hcz14_1:=Up.c1 BK295;have hfz14_0:=blk_frozen BK295.out 0;have hfz14_1:=blk_frozen BK295.out 1;have hcz15_0:=Up.c0 BK296;have hcz15_1:=Up.c1 BK296;have hfz15_0:=blk_frozen BK296.out 0;have hfz15_1:=blk_frozen BK296.out 1) | ((with_reducible refine gate_callee (f:=118) rfl ?_);refine Up.gl (some 14) Try.func118 #[.slice A0_1 l0_1.length c0_1,.slice A1_1 l1_1.length c1_1] ?_;(with_reducible refine (laws_eqStringS.calls k _ _ l0_1 _ _ l1_1 false _ ?side1 ?side2 ?side3 ?side4 A4.out).mono ?_);(case side1 => exact Up.Cx HR0_1 HB);(case side2 => exact HC0_1.out);(case side3 => exact Up.Cx HR1_1 HB);(case side4 => exact HC1_1.out);rintro e w' ⟨rfl,⟨nd,rfl⟩⟩;refine ⟨_,rfl,?_⟩))
   go_ret
   exact Up.e1 (Up.Bx HB)
 ·rw [if_neg c3] at H
  have c3b0 : (a0_0 == a1_0) = false:=beq_eq_false_iff_ne.mpr c3
  have c3b1 : (a0_0 != a1_0) = true:=bne_iff_ne.mpr c3
  obtain rfl:=Option.some.inj H
  go_enter Try.func99,Try.ntmps99
  go_wp2_with (first | ((with_reducible refine gate_dst (N:=2) rfl ?_);refine Up.bx 2 113 #[.int .i64 a0_0,.slice A0_1 l0_1.length c0_1] ?_;intro gb295 hg w16 hbox hb;have n0_:=Up.BB HB hb;have n1_:=Aside0.mk (hbox);have n2_:=Up.gw hg HB;have n3_:=Up.gw hg HB;clear HB;have HB:=n0_;have BK295:=n1_;have GW295:=n2_;have GE295:=n3_;clear n0_ n1_ n2_ n3_ hb hbox hg) | ((with_reducible refine gate_dst (N:=3) rfl ?_);refine Up.bx 3 113 #[.int .i64 a1_0,.slice A1_1 l1_1.length c1_1] ?_;intro gb296 hg w17 hbox hb;have n0_:=Up.KB BK295 hb;have n1_:=Aside0.mk (below_step (Up.Bx HB) hb);have n2_:=Aside0.mk (hbox);have n3_:=Up.gw hg HB;have n4_:=Up.gw hg HB;have n5_:=Up.nl hg BK295;have n6_:=Up.ng hg BK295;clear BK295 HB;have BK295:=n0_;have HB:=n1_;have BK296:=n2_;have GW296:=n3_;have GE296:=n4_;have NB295_296:=n5_;have NB296_295:=n6_;clear n0_ n1_ n2_ n3_ n4_ n5_ n6_ hb hbox hg;have hnb18:=NB295_296.out;have hnc18:=NB296_295.out;have hcz19_0:=Up.c0 BK295;have hcz19_1:=Up.c1 BK295;have hfz19_0:=blk_frozen BK295.out 0;have hfz19_1:=blk_frozen BK295.out 1;have hcz20_0:=Up.c0 BK296;have hcz20_1:=Up.c1 BK296;have hfz20_0:=blk_frozen BK296.out 0;have hfz20_1:=blk_frozen BK296.out 1))
  go_ret
  exact Up.e1 (Up.Bx HB)

/-! ### laws_eqRecordS: function 61 -/
def laws_eqRecordS.l0 : Nat → List (S113) → List (S113) → Int → Option (Bool)
 | 0,_,_,_ => none
 | k + 1,x0,x1,x5 => if x5 < (x0.length : Int) then (if 0 ≤ x5 then (if x5 < (x1.length : Int) then ((laws_eqRecord.f k ((rd_T113 x0 x5).f0) ((rd_T113 x0 x5).f1) ((rd_T113 x1 x5).f0) ((rd_T113 x1 x5).f1)).bind fun t300 => (if t300 = true then (laws_eqRecordS.l0 k x0 x1 (wrap64 (x5 + 1))) else (some false))) else (none)) else (none)) else (some true)
def laws_eqRecordS.f (k : Nat) (l0 : List (S113)) (l1 : List (S113)) : Option (Bool):=if (l0.length : Int) = (l1.length : Int) then (laws_eqRecordS.l0 k l0 l1 0) else (some false)
theorem laws_eqRecordS.mono_l : ∀ k,(∀ y0 y1 y2,LeO (laws_eqRecordS.l0 k y0 y1 y2) (laws_eqRecordS.l0 (k + 1) y0 y1 y2))
 | 0 => fun _ _ _ r h => by simp [laws_eqRecordS.l0] at h
 | k + 1 => by
  have ih0:=laws_eqRecordS.mono_l k
  ·intro y0 y1 y2
   unfold laws_eqRecordS.l0
   repeat' first
   | (with_reducible exact ih0 _ _ _)
   | (with_reducible exact laws_eqRecord.mono _ _ _ _ _)
   | (with_reducible exact LeO.refl _)
   | (with_reducible exact LeO.none _)
   | (with_reducible refine LeO.ite ?_ ?_)
   | (with_reducible refine LeO.bind ?_ (fun _ => ?_))
   | exact ih0 _ _ _
   | exact laws_eqRecord.mono _ _ _ _ _
   | exact LeO.none _
   | refine LeO.ite ?_ ?_
   | refine LeO.bind ?_ (fun _ => ?_)
theorem laws_eqRecordS.mono : ∀ a0 a1 k,LeO (laws_eqRecordS.f k a0 a1) (laws_eqRecordS.f (k + 1) a0 a1):=by
 intro a0 a1 k
 have ih0:=laws_eqRecordS.mono_l k
 unfold laws_eqRecordS.f
 repeat' first
   | (with_reducible exact ih0 _ _ _)
   | (with_reducible exact laws_eqRecord.mono _ _ _ _ _)
   | (with_reducible exact LeO.refl _)
   | (with_reducible exact LeO.none _)
   | (with_reducible refine LeO.ite ?_ ?_)
   | (with_reducible refine LeO.bind ?_ (fun _ => ?_))
   | exact ih0 _ _ _
   | exact laws_eqRecord.mono _ _ _ _ _
   | exact LeO.none _
   | refine LeO.ite ?_ ?_
   | refine LeO.bind ?_ (fun _ => ?_)
def laws_eqRecordS.T6 : Bool × List (List Nat × List Nat):=(true,[([],[]),([],[]),([0,1],[0,1]),([2],[2]),([],[]),([],[]),([4,5],[4,5]),([6],[6]),([3,7],[3,7]),([8],[8])])
def laws_eqRecordS.B6 : List Nat:=[0,0,3,7,0,0,48,112,255,511]
theorem laws_eqRecordS.tab6 : rtab .any (opsOf Try.f61 6) = laws_eqRecordS.T6:=by kernel_rfl
theorem laws_eqRecordS.bits6 : waitsOk laws_eqRecordS.T6.2 laws_eqRecordS.B6 = true:=by kernel_rfl
set_option maxHeartbeats 8000000 in
set_option maxRecDepth 100000 in
theorem laws_eqRecordS.calls (k : Nat) (A0 : Option Addr) (c0 : Nat) (l0 : List (S113)) (A1 : Option Addr) (c1 : Nat) (l1 : List (S113)) (r : Bool) (w : World) (hr0 : Kd.C k113 w A0 l0.length l0) (hc0 : l0.length ≤ c0) (hr1 : Kd.C k113 w A1 l1.length l1) (hc1 : l1.length ≤ c1) (h : laws_eqRecordS.f k l0 l1 = some r) :
  Calls Try.prog 61 #[.slice A0 l0.length c0,.slice A1 l1.length c1] w fun e w' => e = .returned (.bool r) ∧ Below w.heap.size w w':=by
 have hu113:=Try.underlying113
 have HR0:=Aside0.mk hr0
 have HC0:=Aside0.mk hc0
 clear hr0 hc0
 have HR1:=Aside0.mk hr1
 have HC1:=Aside0.mk hc1
 clear hr1 hc1
 have HB:=Aside0.mk (Below.refl w.heap.size w)
 have H : (if (l0.length : Int) = (l1.length : Int) then (laws_eqRecordS.l0 k l0 l1 0) else (some false)) = some r:=h
 clear h
 by_cases c3 : (l0.length : Int) = (l1.length : Int)
 ·rw [if_pos c3] at H
  have c3b0 : ((l0.length : Int) == (l1.length : Int)) = true:=beq_iff_eq.mpr c3
  have c3b1 : ((l0.length : Int) != (l1.length : Int)) = false:=bne_eq_false_iff_eq.mpr c3
  have c3b2 : (l0.length == l1.length) = true:=by first | simpa using c3 | (simp at c3 ⊢;omega)
  clear c3
  have H':=Aside0.mk H
  clear H
  go_enter Try.func61,Try.ntmps61
  go_wp2
  go_loopg [5] k (fun kq v5 w' => ∃ (x5_1 : Int),v5 = .int .i64 x5_1 ∧ Aside0 (laws_eqRecordS.l0 kq l0 l1 x5_1 = some r) ∧ Aside0 (kq ≤ k) ∧ Aside0 (Below w.heap.size w w'))
  case atStart => exact ⟨(0),(by first | rfl | (simp;done) | (simp [*];done)),H',⟨Nat.le_refl _⟩,⟨Up.Bup HB⟩⟩
  case round =>
   clear H'
   try clear c1
   try clear p2
   try clear c3
   try clear c3b0
   try clear c3b1
   try clear c3b2
   obtain ⟨x5_1,rfl,HA,HK1,HB⟩:=hrel
   cases gk with
   | zero => exact absurd HA.out (by simp [laws_eqRecordS.l0])
   | succ k1 =>
    have H:=HA.out
    clear HA
    simp only [laws_eqRecordS.l0] at H
    by_cases c4 : x5_1 < (l0.length : Int)
    ·rw [if_pos c4] at H
     have c4b0 : decide (x5_1 < (l0.length : Int)) = true:=decide_eq_true c4
     clear c4
     by_cases c5 : 0 ≤ x5_1
     ·rw [if_pos c5] at H
      have c5b0 : decide (0 ≤ x5_1) = true:=decide_eq_true c5
      clear c5
      by_cases c6 : x5_1 < (l1.length : Int)
      ·rw [if_pos c6] at H
       have c6b0 : decide (x5_1 < (l1.length : Int)) = true:=decide_eq_true c6
       clear c6
       replace H:=Option.bind_eq_some_iff.mp H
       obtain ⟨t300,A70,H⟩:=H
       replace H : (if t300 = true then (laws_eqRecordS.l0 k1 l0 l1 (wrap64 (x5_1 + 1))) else (some false)) = some r:=H
       have A7:=Aside0.mk A70
       clear A70
       by_cases c8 : t300 = true
       ·subst c8
        have H1 : (laws_eqRecordS.l0 k1 l0 l1 (wrap64 (x5_1 + 1))) = some r:=by rw [if_pos rfl] at H;exact H
        clear H
        have H:=H1
        clear H1
        have H':=Aside0.mk H
        clear H
        try go_wp2
        have n0_:=Aside0.mk (below_drew1 HB.out)
        clear HB
        have HB:=n0_
        clear n0_
        have p298 : 0 ≤ (x5_1 : Int):=Up.od
        have q298 : x5_1 < (l0.length : Int):=Up.od
        obtain ⟨ad298,A298_1,c298_1,e298,hx298_0,hx298_1,hl298_1,hi298_1⟩:=at_T113 HR0.out x5_1 p298 q298
        have hw298_1:=hx298_1
        have hw298_0:=hx298_0
        cases e298
        replace hx298_0:=Up.hc HB hx298_0
        replace hx298_1:=Up.hc HB hx298_1
        have HR298_1:=Aside0.mk hi298_1
        have HC298_1:=Aside0.mk hl298_1
        clear hi298_1 hl298_1
        replace p298:=eq_true p298
        replace q298:=eq_true q298
        have p299 : 0 ≤ (x5_1 : Int):=Up.od
        have q299 : x5_1 < (l1.length : Int):=Up.od
        obtain ⟨ad299,A299_1,c299_1,e299,hx299_0,hx299_1,hl299_1,hi299_1⟩:=at_T113 HR1.out x5_1 p299 q299
        have hw299_1:=hx299_1
        have hw299_0:=hx299_0
        cases e299
        replace hx299_0:=Up.hc HB hx299_0
        replace hx299_1:=Up.hc HB hx299_1
        have HR299_1:=Aside0.mk hi299_1
        have HC299_1:=Aside0.mk hl299_1
        clear hi299_1 hl299_1
        replace p299:=eq_true p299
        replace q299:=eq_true q299
        refine start_ (n:=10) (S:=fun w' => w'.cell? (ad298.add ((x5_1).toNat * 2)) = some (.int .i64 ((rd_T113 l0 x5_1).f0)) ∧ w'.cell? ⟨(ad298.add ((x5_1).toNat * 2)).block,(ad298.add ((x5_1).toNat * 2)).off + 1,none⟩ = some (.slice A298_1 ((rd_T113 l0 x5_1).f1).length c298_1) ∧ w'.cell? (ad299.add ((x5_1).toNat * 2)) = some (.int .i64 ((rd_T113 l1 x5_1).f0)) ∧ w'.cell? ⟨(ad299.add ((x5_1).toNat * 2)).block,(ad299.add ((x5_1).toNat * 2)).off + 1,none⟩ = some (.slice A299_1 ((rd_T113 l1 x5_1).f1).length c299_1)) (ds:=[]) #[false,false,false,false,false,false,false,false,false,false] (by kernel_rfl) rfl rfl ⟨(Up.hd HB hw298_0),(Up.hd HB hw298_1),(Up.hd HB hw299_0),(Up.hd HB hw299_1)⟩ (fun hHeld => ?_);refine with_tabW laws_eqRecordS.tab6 laws_eqRecordS.bits6 (fun HT_ HW_ => ?_)
        generalize wr.drew = w9 at HB HR298_1 HR299_1 hx298_0 hx298_1 hx299_0 hx299_1 hHeld ⊢
        refine Up.pu 0 (some 17) HT_ ?_
        refine Up.pu 1 (some 18) HT_ ?_
        refine Up.pu 2 (some 19) HT_ ?_
        refine Up.pu 4 (some 21) HT_ ?_
        refine Up.pu 5 (some 22) HT_ ?_
        refine Up.pu 6 (some 23) HT_ ?_
        refine Up.tk 3 (some 20) HT_ HW_ hHeld ?_ (hy:=by rintro w' ⟨s0,s1,s2,s3⟩;go_simp;with_reducible rfl)
        refine Up.tk 7 (some 24) HT_ HW_ hHeld ?_ (hy:=by rintro w' ⟨s0,s1,s2,s3⟩;go_simp;with_reducible rfl)
        refine Up.on 8 (some 25) HT_ (fun K hK => ?_)
        refine Up.go Try.func99 #[.agg #[.int .i64 ((rd_T113 l0 x5_1).f0),.slice A298_1 ((rd_T113 l0 x5_1).f1).length c298_1],.agg #[.int .i64 ((rd_T113 l1 x5_1).f0),.slice A299_1 ((rd_T113 l1 x5_1).f1).length c299_1]] ?_
        with_reducible refine (laws_eqRecord.calls k1 ((rd_T113 l0 x5_1).f0) _ _ ((rd_T113 l0 x5_1).f1) ((rd_T113 l1 x5_1).f0) _ _ ((rd_T113 l1 x5_1).f1) true _ ?side1 ?side2 ?side3 ?side4 A7.out).mono ?_
        (case side1 => exact Up.Cx HR298_1 HB)
        (case side2 => exact HC298_1.out)
        (case side3 => exact Up.Cx HR299_1 HB)
        (case side4 => exact HC299_1.out)
        rintro e w10 ⟨rfl,hb⟩
        refine ⟨_,rfl,?_⟩
        have n0_:=Up.BB HB hb
        clear HB
        have HB:=n0_
        clear n0_
        (try clear hb)
        (try clear hb2)
        (try clear hk)
        (try clear hi)
        refine hK.out _ _ ⟨(Up.hd HB hw298_0),(Up.hd HB hw298_1),(Up.hd HB hw299_0),(Up.hd HB hw299_1)⟩ (fun hHeld => ?_)
        clear hK K
        refine Up.nm 25 ?_
        refine Up.pu 9 (some 26) HT_ ?_
        refine done_ (done_of HT_.out (by kernel_rfl)) ?_
        try go_wp2
        go_roundg k1
        case measure => have:=HK1.out;omega
        case rel => exact ⟨(wrap64 (x5_1 + 1)),(by first | rfl | (simp;done) | (simp [*];done)),H',⟨by have:=HK1.out;omega⟩,⟨Up.Bup HB⟩⟩
       ·replace c8:=Bool.eq_false_iff.mpr c8
        subst c8
        have H1 : (some false) = some r:=by rw [if_neg (show ¬ (false = true) by decide)] at H;exact H
        clear H
        have H:=H1
        clear H1
        obtain rfl:=Option.some.inj H
        try go_wp2
        have n0_:=Aside0.mk (below_drew1 HB.out)
        clear HB
        have HB:=n0_
        clear n0_
        have p298 : 0 ≤ (x5_1 : Int):=Up.od
        have q298 : x5_1 < (l0.length : Int):=Up.od
        obtain ⟨ad298,A298_1,c298_1,e298,hx298_0,hx298_1,hl298_1,hi298_1⟩:=at_T113 HR0.out x5_1 p298 q298
        have hw298_1:=hx298_1
        have hw298_0:=hx298_0
        cases e298
        replace hx298_0:=Up.hc HB hx298_0
        replace hx298_1:=Up.hc HB hx298_1
        have HR298_1:=Aside0.mk hi298_1
        have HC298_1:=Aside0.mk hl298_1
        clear hi298_1 hl298_1
        replace p298:=eq_true p298
        replace q298:=eq_true q298
        have p299 : 0 ≤ (x5_1 : Int):=Up.od
        have q299 : x5_1 < (l1.length : Int):=Up.od
        obtain ⟨ad299,A299_1,c299_1,e299,hx299_0,hx299_1,hl299_1,hi299_1⟩:=at_T113 HR1.out x5_1 p299 q299
        have hw299_1:=hx299_1
        have hw299_0:=hx299_0
        cases e299
        replace hx299_0:=Up.hc HB hx299_0
        replace hx299_1:=Up.hc HB hx299_1
        have HR299_1:=Aside0.mk hi299_1
        have HC299_1:=Aside0.mk hl299_1
        clear hi299_1 hl299_1
        replace p299:=eq_true p299
        replace q299:=eq_true q299
        refine start_ (n:=10) (S:=fun w' => w'.cell? (ad298.add ((x5_1).toNat * 2)) = some (.int .i64 ((rd_T113 l0 x5_1).f0)) ∧ w'.cell? ⟨(ad298.add ((x5_1).toNat * 2)).block,(ad298.add ((x5_1).toNat * 2)).off + 1,none⟩ = some (.slice A298_1 ((rd_T113 l0 x5_1).f1).length c298_1) ∧ w'.cell? (ad299.add ((x5_1).toNat * 2)) = some (.int .i64 ((rd_T113 l1 x5_1).f0)) ∧ w'.cell? ⟨(ad299.add ((x5_1).toNat * 2)).block,(ad299.add ((x5_1).toNat * 2)).off + 1,none⟩ = some (.slice A299_1 ((rd_T113 l1 x5_1).f1).length c299_1)) (ds:=[]) #[false,false,false,false,false,false,false,false,false,false] (by kernel_rfl) rfl rfl ⟨(Up.hd HB hw298_0),(Up.hd HB hw298_1),(Up.hd HB hw299_0),(Up.hd HB hw299_1)⟩ (fun hHeld => ?_);refine with_tabW laws_eqRecordS.tab6 laws_eqRecordS.bits6 (fun HT_ HW_ => ?_)
        generalize wr.drew = w11 at HB HR298_1 HR299_1 hx298_0 hx298_1 hx299_0 hx299_1 hHeld ⊢
        refine Up.pu 0 (some 17) HT_ ?_
        refine Up.pu 1 (some 18) HT_ ?_
        refine Up.pu 2 (some 19) HT_ ?_
        refine Up.pu 4 (some 21) HT_ ?_
        refine Up.pu 5 (some 22) HT_ ?_
        refine Up.pu 6 (some 23) HT_ ?_
        refine Up.tk 3 (some 20) HT_ HW_ hHeld ?_ (hy:=by rintro w' ⟨s0,s1,s2,s3⟩;go_simp;with_reducible rfl)
        refine Up.tk 7 (some 24) HT_ HW_ hHeld ?_ (hy:=by rintro w' ⟨s0,s1,s2,s3⟩;go_simp;with_reducible rfl)
        refine Up.on 8 (some 25) HT_ (fun K hK => ?_)
        refine Up.go Try.func99 #[.agg #[.int .i64 ((rd_T113 l0 x5_1).f0),.slice A298_1 ((rd_T113 l0 x5_1).f1).length c298_1],.agg #[.int .i64 ((rd_T113 l1 x5_1).f0),.slice A299_1 ((rd_T113 l1 x5_1).f1).length c299_1]] ?_
        with_reducible refine (laws_eqRecord.calls k1 ((rd_T113 l0 x5_1).f0) _ _ ((rd_T113 l0 x5_1).f1) ((rd_T113 l1 x5_1).f0) _ _ ((rd_T113 l1 x5_1).f1) false _ ?side1 ?side2 ?side3 ?side4 A7.out).mono ?_
        (case side1 => exact Up.Cx HR298_1 HB)
        (case side2 => exact HC298_1.out)
        (case side3 => exact Up.Cx HR299_1 HB)
        (case side4 => exact HC299_1.out)
        rintro e w12 ⟨rfl,hb⟩
        refine ⟨_,rfl,?_⟩
        have n0_:=Up.BB HB hb
        clear HB
        have HB:=n0_
        clear n0_
        (try clear hb)
        (try clear hb2)
        (try clear hk)
        (try clear hi)
        refine hK.out _ _ ⟨(Up.hd HB hw298_0),(Up.hd HB hw298_1),(Up.hd HB hw299_0),(Up.hd HB hw299_1)⟩ (fun hHeld => ?_)
        clear hK K
        refine Up.nm 25 ?_
        refine Up.pu 9 (some 26) HT_ ?_
        refine done_ (done_of HT_.out (by kernel_rfl)) ?_
        try go_wp2
        go_ret
        exact Up.e1 (Up.Bup HB)
      ·rw [if_neg c6] at H
       exact absurd H (by simp)
     ·rw [if_neg c5] at H
      exact absurd H (by simp)
    ·rw [if_neg c4] at H
     have c4b0 : decide (x5_1 < (l0.length : Int)) = false:=decide_eq_false c4
     clear c4
     obtain rfl:=Option.some.inj H
     go_wp2
     go_ret
     exact Up.e1 (Up.Bup HB)
 ·rw [if_neg c3] at H
  have c3b0 : ((l0.length : Int) == (l1.length : Int)) = false:=beq_eq_false_iff_ne.mpr c3
  have c3b1 : ((l0.length : Int) != (l1.length : Int)) = true:=bne_iff_ne.mpr c3
  have c3b2 : (l0.length == l1.length) = false:=by first | simpa using c3 | (simp at c3 ⊢;omega)
  obtain rfl:=Option.some.inj H
  go_enter Try.func61,Try.ntmps61
  go_wp2
  go_ret
  exact Up.e1 (Up.Bup HB)

end Go.Proofs.Ytdgmlakgnbmbbaa.OFnExactValueCount
