-- Laid by a program of this session (wip/myprint.py): the kit's print of the functions, contracts of our own among them.
import Derived.Test.YtfkhjnmgaadomaaDoorOFnExactInsWordsx0
import Derived.Test.YtfkhjnmgaadomaaDoorOFnExactInsWordsx1
namespace Go.Proofs.YtfkhjnmgaadomaaDoor.OFnExactInsWords
open Go.RowKit Go.Proofs.YtfkhjnmgaadomaaDoorW.PrintWords Go.Proofs.YtfkhjnmgaadomaaDoorW.PrintLast Go.Proofs.YtfkhjnmgaadomaaDoorW.PrintMore
attribute [local go_sem] max2_int min2_int max_two min_two max_three min_three max_four min_four   -- for this text's walks alone
set_option linter.unusedVariables false
set_option linter.unusedSimpArgs false

/-! ### laws_markStringS: function 20 -/
def laws_markStringS.l0 : Nat → List ByteArray → Int → Int → Option (Int × List ByteArray)
 | 0,_,_,_ => none
 | k + 1,x0,x1,x5 => if x5 < (x0.length : Int) then ((laws_markText.f k x1).bind fun t174 => (if 0 ≤ x5 then (laws_markStringS.l0 k (x0.set (x5 : Int).toNat t174) (wrap64 (x1 + 1)) (wrap64 (x5 + 1))) else (none))) else (some (x1,x0))
def laws_markStringS.f (k : Nat) (l0 : List ByteArray) (a1 : Int) : Option (Int × List ByteArray):=laws_markStringS.l0 k l0 a1 0
theorem laws_markStringS.mono_l : ∀ k,(∀ y0 y1 y2,LeO (laws_markStringS.l0 k y0 y1 y2) (laws_markStringS.l0 (k + 1) y0 y1 y2))
 | 0 => fun _ _ _ r h => by simp [laws_markStringS.l0] at h
 | k + 1 => by
  have ih0:=laws_markStringS.mono_l k
  ·intro y0 y1 y2
   unfold laws_markStringS.l0
   repeat' first
   | (with_reducible exact ih0 _ _ _)
   | (with_reducible exact laws_markText.mono _ _)
   | (with_reducible exact LeO.refl _)
   | (with_reducible exact LeO.none _)
   | (with_reducible refine LeO.ite ?_ ?_)
   | (with_reducible refine LeO.bind ?_ (fun _ => ?_))
   | exact ih0 _ _ _
   | exact laws_markText.mono _ _
   | exact LeO.none _
   | refine LeO.ite ?_ ?_
   | refine LeO.bind ?_ (fun _ => ?_)
theorem laws_markStringS.mono : ∀ a0 a1 k,LeO (laws_markStringS.f k a0 a1) (laws_markStringS.f (k + 1) a0 a1):=by
 intro a0 a1 k
 have ih0:=laws_markStringS.mono_l k
 unfold laws_markStringS.f
 repeat' first
   | (with_reducible exact ih0 _ _ _)
   | (with_reducible exact laws_markText.mono _ _)
   | (with_reducible exact LeO.refl _)
   | (with_reducible exact LeO.none _)
   | (with_reducible refine LeO.ite ?_ ?_)
   | (with_reducible refine LeO.bind ?_ (fun _ => ?_))
   | exact ih0 _ _ _
   | exact laws_markText.mono _ _
   | exact LeO.none _
   | refine LeO.ite ?_ ?_
   | refine LeO.bind ?_ (fun _ => ?_)
set_option maxHeartbeats 8000000 in
set_option maxRecDepth 100000 in
theorem laws_markStringS.calls (k : Nat) (P0_ : Nat → Prop) (A9_ : Option Addr) (n9_ c9_ d9_ : Nat) (hd9_ : n9_ ≤ d9_) (l0 : List ByteArray) (a1 : Int) (r1 : Int) (r2 : List ByteArray) (w0 w : World) (hB : Below w0.heap.size w0 w) (ho0 : Kd.R Kd.string 9 w w0.heap.size P0_ (.slice A9_ n9_ c9_) l0) (h : laws_markStringS.f k l0 a1 = some (r1,r2)) :
  Calls Tryd.prog 20 #[.slice A9_ n9_ d9_,.int .i64 a1] w fun e w' => e = .returned (.int .i64 r1) ∧ Kd.R Kd.string 9 w' w0.heap.size (fun k_ => (P0_ k_ ∨ w.heap.size ≤ k_)) (.slice A9_ n9_ c9_) r2 ∧ Below w0.heap.size w0 w' ∧ Kept w w' (fun k_ => P0_ k_):=by
 have HO0:=Aside0.mk (show Kd.R Kd.string 9 w w0.heap.size (fun k_ => (P0_ k_ ∨ w.heap.size ≤ k_)) (.slice A9_ n9_ c9_) l0 from Kd.R_mono ho0 (fun k_ hk => (.inl hk)))
 have HK:=Aside0.mk (Kept.refl w (fun k_ => P0_ k_))
 have HW0:=Aside0.mk hB.size
 have HB:=Aside0.mk hB
 clear hB
 have H : (laws_markStringS.l0 k l0 a1 0) = some (r1,r2):=h
 clear h
 have H':=Aside0.mk H
 clear H
 go_enter Tryd.func20,Tryd.ntmps20
 go_wp2
 go_loopg [1,5] k (fun kq v1 v5 w' => ∃ (x0_1 : List ByteArray) (x1_1 : Int) (x5_1 : Int),v1 = .int .i64 x1_1 ∧ v5 = .int .i64 x5_1 ∧ Aside0 (laws_markStringS.l0 kq x0_1 x1_1 x5_1 = some (r1,r2)) ∧ Aside0 (kq ≤ k) ∧ Aside0 (Kd.R Kd.string 9 w' w0.heap.size (fun k_ => (P0_ k_ ∨ w.heap.size ≤ k_)) (.slice A9_ n9_ c9_) x0_1) ∧ Aside0 (Kept w w' (fun k_ => P0_ k_)) ∧ Aside0 (Below w0.heap.size w0 w'))
 case atStart => exact ⟨(l0),(a1),(0),(by first | rfl | (simp;done) | (simp [*];done)),(by first | rfl | (simp;done) | (simp [*];done)),H',⟨Nat.le_refl _⟩,⟨Up.Rup HO0⟩,⟨by repeat (first | (with_reducible first | exact HK.out | apply Kept.alloc | apply Kept.drewN | apply Kept.drew) | exact HK.out)⟩,⟨Up.Bup HB⟩⟩
 case round =>
  clear H'
  try clear c2
  try clear p2
  obtain ⟨x0_1,x1_1,x5_1,rfl,rfl,HA,HK1,HO_0,HK,HB⟩:=hrel
  cases gk with
  | zero => exact absurd HA.out (by simp [laws_markStringS.l0])
  | succ k1 =>
   have H:=HA.out
   clear HA
   simp only [laws_markStringS.l0] at H
   by_cases c3 : x5_1 < (x0_1.length : Int)
   ·rw [if_pos c3] at H
    have c3b0 : decide (x5_1 < (x0_1.length : Int)) = true:=decide_eq_true c3
    clear c3
    replace H:=Option.bind_eq_some_iff.mp H
    obtain ⟨t174,A40,H⟩:=H
    replace H : (if 0 ≤ x5_1 then (laws_markStringS.l0 k1 (x0_1.set (x5_1 : Int).toNat t174) (wrap64 (x1_1 + 1)) (wrap64 (x5_1 + 1))) else (none)) = some (r1,r2):=H
    have A4:=Aside0.mk A40
    clear A40
    by_cases c5 : 0 ≤ x5_1
    ·rw [if_pos c5] at H
     have c5b0 : decide (0 ≤ x5_1) = true:=decide_eq_true c5
     clear c5
     obtain ⟨y175,hy175⟩ : ∃ y_ : List ByteArray,y_ = (x0_1.set (x5_1 : Int).toNat t174):=⟨_,rfl⟩
     replace H : (laws_markStringS.l0 k1 y175 (wrap64 (x1_1 + 1)) (wrap64 (x5_1 + 1))) = some (r1,r2):=by first | (rw [hy175];with_reducible exact H) | (have H2_:=(Option.bind_some _ _).symm.trans H;rw [hy175];with_reducible exact H2_) | (have H2_:=(Option.bind_some _ _).symm.trans H;with_reducible exact H2_) | with_reducible exact H | (rw [hy175];exact H) | exact H
     have Ny175:=Aside0.mk hy175
     clear hy175
     have H':=Aside0.mk H
     clear H
     obtain ⟨Ao7,co7,eo7⟩:=Kd.R_slice HO_0.out
     injection eo7 with ea9_ en9_ ec9_
     subst A9_
     subst n9_
     subst c9_
     go_wp2_with (first | ((with_reducible refine gate_callee (f:=37) rfl ?_);refine Up.gl (some 15) Tryd.func37 #[.int .i64 x1_1] ?_;(with_reducible refine (laws_markText.calls k1 x1_1 t174 _ A4.out).mono ?_);rintro e w8 ⟨rfl,hb⟩;refine ⟨_,rfl,?_⟩;have n0_:=Up.RB HO_0 hb;have n1_:=Aside0.mk (Kept.below (S:=(fun k_ => P0_ k_)) (by repeat (first | (with_reducible first | exact HK.out | apply Kept.alloc | apply Kept.drewN | apply Kept.drew) | exact HK.out)) hb);have n2_:=Up.BB HB hb;clear HO_0 HK HB;have HO_0:=n0_;have HK:=n1_;have HB:=n2_;clear n0_ n1_ n2_;(try clear hb);(try clear hb2);(try clear hk);(try clear hi);have p6 : 0 ≤ (x5_1 : Int):=Up.od;have q6 : (x5_1 : Int) < ((x0_1.length : Int) : Int):=Up.od;obtain ⟨go6,co6,eo6,gb6,gl6,cl6,HG6⟩:=Kd.R_form HO_0.out (by omega);(first | cases eo6 | (injection eo6 with ea_ en_ ec_;(first | subst ea_ | (injection ea_ with ea_;subst ea_));subst ec_;clear en_));have GB6:=Aside0.mk gb6;have GG6:=Aside0.mk HG6;clear gb6 gl6 HG6;have HMgo6:=Aside0.mk (show (P0_ go6 ∨ w.heap.size ≤ go6) from (HO_0.out.1 _ rfl));obtain ⟨hx6_0,hf6_0⟩:=Kd.R_celln (⟨#[]⟩ : ByteArray) HO_0.out (x5_1 : Int) p6 q6;replace p6:=eq_true p6;replace q6:=eq_true q6;obtain ⟨hy9_,hz9_⟩:=Kd.R_celln (⟨#[]⟩ : ByteArray) HO_0.out (x5_1 : Int) (Up.od) (Up.od);have HP9:=Kd.R_putg HO_0.out (x5_1 : Int) t174) | ((with_reducible refine gate_store (t:=9) (p:=16) rfl ?_);refine store_event (t:=9) (p:=16) (v:=?vo_w10) (w1:=(w8.setCell ⟨go6,(x5_1 : Int).toNat,none⟩ (.string t174))) ?hg ?ho ?hn ?hr ?_;(case ho => rfl);(case hg => rfl);(case hn => rfl);(case hr => first | (go_simp;done) | (go_simp;rfl));intro w10 hw;have hg : w8.grownBy w10 (some go6):=(by rw [hw];exact HP9.2);have hp_ : Kd.R Kd.string 9 w10 w0.heap.size (fun k_ => (P0_ k_ ∨ w.heap.size ≤ k_)) (.slice (some ⟨go6,0,none⟩) x0_1.length co7) y175:=(by rw [hw,Ny175.out];exact HP9.1);clear HP9;have n0_:=Aside0.mk (hp_);have n1_:=Aside0.mk ((by rw [hw];exact below_set (HB.out) GB6.out : Below w0.heap.size w0 w10));have n2_:=Aside0.mk (Kept.of_grown (S:=(fun k_ => P0_ k_)) hg (by repeat (first | (with_reducible first | exact HK.out | apply Kept.alloc | apply Kept.drewN | apply Kept.drew) | exact HK.out)) (fun k_ e_ => (HO_0.out.1 k_ e_)));clear HO_0 HB HK;have HO_0:=n0_;have HB:=n1_;have HK:=n2_;clear n0_ n1_ n2_ hg hw hp_))
     go_roundg k1
     case measure => have:=HK1.out;omega
     case rel => exact ⟨(y175),(wrap64 (x1_1 + 1)),(wrap64 (x5_1 + 1)),(by first | rfl | (simp;done) | (simp [*];done)),(by first | rfl | (simp;done) | (simp [*];done)),H',⟨by have:=HK1.out;omega⟩,⟨Up.Rup HO_0⟩,⟨by repeat (first | (with_reducible first | exact HK.out | apply Kept.alloc | apply Kept.drewN | apply Kept.drew) | exact HK.out)⟩,⟨Up.Bup HB⟩⟩
    ·rw [if_neg c5] at H
     exact absurd H (by simp)
   ·rw [if_neg c3] at H
    have c3b0 : decide (x5_1 < (x0_1.length : Int)) = false:=decide_eq_false c3
    clear c3
    simp only [Option.some.injEq,Prod.mk.injEq] at H
    obtain ⟨rfl,rfl⟩:=H
    obtain ⟨Ao11,co11,eo11⟩:=Kd.R_slice HO_0.out
    injection eo11 with ea9_ en9_ ec9_
    subst A9_
    subst n9_
    subst c9_
    go_wp2
    go_ret
    exact ⟨by first | rfl | (simp [errW_none,errW_some] <;> rfl) | (simp [*,errW_none,errW_some] <;> rfl),Up.Rup HO_0,Up.Bup HB,by repeat (first | (with_reducible first | exact HK.out | apply Kept.alloc | apply Kept.drewN | apply Kept.drew) | exact HK.out)⟩

/-! ### laws_heldStringS: function 21 -/
def laws_heldStringS.l0 : Nat → List ByteArray → Int → Int → Option (Int)
 | 0,_,_,_ => none
 | k + 1,x0,x1,x5 => if x5 < (x0.length : Int) then (if 0 ≤ x5 then ((laws_markText.f k x1).bind fun t177 => (if (rdOf ByteArray.empty x0 x5).toList = t177.toList then (laws_heldStringS.l0 k x0 (wrap64 (x1 + 1)) (wrap64 (x5 + 1))) else (some (-1)))) else (none)) else (some x1)
def laws_heldStringS.f (k : Nat) (l0 : List ByteArray) (a1 : Int) : Option (Int):=laws_heldStringS.l0 k l0 a1 0
theorem laws_heldStringS.mono_l : ∀ k,(∀ y0 y1 y2,LeO (laws_heldStringS.l0 k y0 y1 y2) (laws_heldStringS.l0 (k + 1) y0 y1 y2))
 | 0 => fun _ _ _ r h => by simp [laws_heldStringS.l0] at h
 | k + 1 => by
  have ih0:=laws_heldStringS.mono_l k
  ·intro y0 y1 y2
   unfold laws_heldStringS.l0
   repeat' first
   | (with_reducible exact ih0 _ _ _)
   | (with_reducible exact laws_markText.mono _ _)
   | (with_reducible exact LeO.refl _)
   | (with_reducible exact LeO.none _)
   | (with_reducible refine LeO.ite ?_ ?_)
   | (with_reducible refine LeO.bind ?_ (fun _ => ?_))
   | exact ih0 _ _ _
   | exact laws_markText.mono _ _
   | exact LeO.none _
   | refine LeO.ite ?_ ?_
   | refine LeO.bind ?_ (fun _ => ?_)
theorem laws_heldStringS.mono : ∀ a0 a1 k,LeO (laws_heldStringS.f k a0 a1) (laws_heldStringS.f (k + 1) a0 a1):=by
 intro a0 a1 k
 have ih0:=laws_heldStringS.mono_l k
 unfold laws_heldStringS.f
 repeat' first
   | (with_reducible exact ih0 _ _ _)
   | (with_reducible exact laws_markText.mono _ _)
   | (with_reducible exact LeO.refl _)
   | (with_reducible exact LeO.none _)
   | (with_reducible refine LeO.ite ?_ ?_)
   | (with_reducible refine LeO.bind ?_ (fun _ => ?_))
   | exact ih0 _ _ _
   | exact laws_markText.mono _ _
   | exact LeO.none _
   | refine LeO.ite ?_ ?_
   | refine LeO.bind ?_ (fun _ => ?_)
set_option maxHeartbeats 8000000 in
set_option maxRecDepth 100000 in
theorem laws_heldStringS.calls (k : Nat) (A0 : Option Addr) (c0 : Nat) (l0 : List ByteArray) (a1 : Int) (r : Int) (w : World) (hr0 : Kd.C Kd.string w A0 l0.length l0) (hc0 : l0.length ≤ c0) (h : laws_heldStringS.f k l0 a1 = some r) :
  Calls Tryd.prog 21 #[.slice A0 l0.length c0,.int .i64 a1] w fun e w' => e = .returned (.int .i64 r) ∧ Below w.heap.size w w':=by
 have HR0:=Aside0.mk hr0
 have HC0:=Aside0.mk hc0
 clear hr0 hc0
 have HB:=Aside0.mk (Below.refl w.heap.size w)
 have H : (laws_heldStringS.l0 k l0 a1 0) = some r:=h
 clear h
 have H':=Aside0.mk H
 clear H
 go_enter Tryd.func21,Tryd.ntmps21
 go_wp2
 go_loopg [1,5] k (fun kq v1 v5 w' => ∃ (x1_1 : Int) (x5_1 : Int),v1 = .int .i64 x1_1 ∧ v5 = .int .i64 x5_1 ∧ Aside0 (laws_heldStringS.l0 kq l0 x1_1 x5_1 = some r) ∧ Aside0 (kq ≤ k) ∧ Aside0 (Below w.heap.size w w'))
 case atStart => exact ⟨(a1),(0),(by first | rfl | (simp;done) | (simp [*];done)),(by first | rfl | (simp;done) | (simp [*];done)),H',⟨Nat.le_refl _⟩,⟨Up.Bup HB⟩⟩
 case round =>
  clear H'
  try clear c2
  try clear p2
  obtain ⟨x1_1,x5_1,rfl,rfl,HA,HK1,HB⟩:=hrel
  cases gk with
  | zero => exact absurd HA.out (by simp [laws_heldStringS.l0])
  | succ k1 =>
   have H:=HA.out
   clear HA
   simp only [laws_heldStringS.l0] at H
   by_cases c3 : x5_1 < (l0.length : Int)
   ·rw [if_pos c3] at H
    have c3b0 : decide (x5_1 < (l0.length : Int)) = true:=decide_eq_true c3
    clear c3
    by_cases c4 : 0 ≤ x5_1
    ·rw [if_pos c4] at H
     have c4b0 : decide (0 ≤ x5_1) = true:=decide_eq_true c4
     clear c4
     replace H:=Option.bind_eq_some_iff.mp H
     obtain ⟨t177,A50,H⟩:=H
     replace H : (if (rdOf ByteArray.empty l0 x5_1).toList = t177.toList then (laws_heldStringS.l0 k1 l0 (wrap64 (x1_1 + 1)) (wrap64 (x5_1 + 1))) else (some (-1))) = some r:=H
     have A5:=Aside0.mk A50
     clear A50
     by_cases c6 : (rdOf ByteArray.empty l0 x5_1).toList = t177.toList
     ·rw [if_pos c6] at H
      have c6b0 : ((rdOf ByteArray.empty l0 x5_1).toList == t177.toList) = true:=beq_iff_eq.mpr c6
      have c6b1 : ((rdOf ByteArray.empty l0 x5_1).toList != t177.toList) = false:=bne_eq_false_iff_eq.mpr c6
      clear c6
      have H':=Aside0.mk H
      clear H
      try go_wp2
      have n0_:=Aside0.mk (below_drew1 HB.out)
      clear HB
      have HB:=n0_
      clear n0_
      have p176 : 0 ≤ (x5_1 : Int):=Up.od
      have q176 : x5_1 < (l0.length : Int):=Up.od
      obtain ⟨ad176,e176,hx176_0⟩:=Kd.at_string HR0.out x5_1 p176 q176
      have hw176_0:=hx176_0
      cases e176
      replace hx176_0:=Up.hc HB hx176_0
      replace p176:=eq_true p176
      replace q176:=eq_true q176
      refine start_ (n:=7) (S:=fun w' => w'.cell? (ad176.add (x5_1).toNat) = some (.string (rdOf ByteArray.empty l0 x5_1))) (ds:=[]) #[false,false,false,false,false,false,false] (by kernel_rfl) rfl rfl ((Up.hd HB hw176_0)) (fun hHeld => ?_)
      generalize wr.drew = w7 at HB hx176_0 hHeld ⊢
      refine Up.pn 0 (some 12) ?_
      refine Up.pn 1 (some 13) ?_
      refine Up.pn 2 (some 14) ?_
      refine Up.pn 4 (some 16) ?_
      refine take_ (i:=3) (N:=some 15) (v:=?_) (a':=?_) #[true,true,true,true,true,false,false] rfl rfl (by kernel_rfl) (fun _ _ _ h => h) (Or.inl ⟨by rfl,?_⟩) hHeld ?_ ?_
      rotate_left
      ·intro w' s0
       go_simp
       with_reducible rfl
      rotate_left
      ·simp only [Act.put,List.setIfInBounds_toArray,List.set_cons_zero,List.set_cons_succ,i64_w,i32_w]
       rfl
      refine one_ (i:=5) (N:=some 17) #[true,true,true,true,true,true,false] rfl rfl (by kernel_rfl) (by decide) (fun K hK => ?_)
      refine Up.go Tryd.func37 #[.int .i64 x1_1] ?_
      with_reducible refine (laws_markText.calls k1 x1_1 t177 _ A5.out).mono ?_
      rintro e w8 ⟨rfl,hb⟩
      refine ⟨_,rfl,?_⟩
      have n0_:=Up.BB HB hb
      clear HB
      have HB:=n0_
      clear n0_
      (try clear hb)
      (try clear hb2)
      (try clear hk)
      (try clear hi)
      refine hK.out _ _ ((Up.hd HB hw176_0)) (fun hHeld => ?_)
      clear hK K
      refine Up.nm 17 ?_
      refine Up.pn 6 (some 18) ?_
      refine done_ (by kernel_rfl) ?_
      try go_wp2
      go_roundg k1
      case measure => have:=HK1.out;omega
      case rel => exact ⟨(wrap64 (x1_1 + 1)),(wrap64 (x5_1 + 1)),(by first | rfl | (simp;done) | (simp [*];done)),(by first | rfl | (simp;done) | (simp [*];done)),H',⟨by have:=HK1.out;omega⟩,⟨Up.Bup HB⟩⟩
     ·rw [if_neg c6] at H
      have c6b0 : ((rdOf ByteArray.empty l0 x5_1).toList == t177.toList) = false:=beq_eq_false_iff_ne.mpr c6
      have c6b1 : ((rdOf ByteArray.empty l0 x5_1).toList != t177.toList) = true:=bne_iff_ne.mpr c6
      obtain rfl:=Option.some.inj H
      try go_wp2
      have n0_:=Aside0.mk (below_drew1 HB.out)
      clear HB
      have HB:=n0_
      clear n0_
      have p176 : 0 ≤ (x5_1 : Int):=Up.od
      have q176 : x5_1 < (l0.length : Int):=Up.od
      obtain ⟨ad176,e176,hx176_0⟩:=Kd.at_string HR0.out x5_1 p176 q176
      have hw176_0:=hx176_0
      cases e176
      replace hx176_0:=Up.hc HB hx176_0
      replace p176:=eq_true p176
      replace q176:=eq_true q176
      refine start_ (n:=7) (S:=fun w' => w'.cell? (ad176.add (x5_1).toNat) = some (.string (rdOf ByteArray.empty l0 x5_1))) (ds:=[]) #[false,false,false,false,false,false,false] (by kernel_rfl) rfl rfl ((Up.hd HB hw176_0)) (fun hHeld => ?_)
      generalize wr.drew = w9 at HB hx176_0 hHeld ⊢
      refine Up.pn 0 (some 12) ?_
      refine Up.pn 1 (some 13) ?_
      refine Up.pn 2 (some 14) ?_
      refine Up.pn 4 (some 16) ?_
      refine take_ (i:=3) (N:=some 15) (v:=?_) (a':=?_) #[true,true,true,true,true,false,false] rfl rfl (by kernel_rfl) (fun _ _ _ h => h) (Or.inl ⟨by rfl,?_⟩) hHeld ?_ ?_
      rotate_left
      ·intro w' s0
       go_simp
       with_reducible rfl
      rotate_left
      ·simp only [Act.put,List.setIfInBounds_toArray,List.set_cons_zero,List.set_cons_succ,i64_w,i32_w]
       rfl
      refine one_ (i:=5) (N:=some 17) #[true,true,true,true,true,true,false] rfl rfl (by kernel_rfl) (by decide) (fun K hK => ?_)
      refine Up.go Tryd.func37 #[.int .i64 x1_1] ?_
      with_reducible refine (laws_markText.calls k1 x1_1 t177 _ A5.out).mono ?_
      rintro e w10 ⟨rfl,hb⟩
      refine ⟨_,rfl,?_⟩
      have n0_:=Up.BB HB hb
      clear HB
      have HB:=n0_
      clear n0_
      (try clear hb)
      (try clear hb2)
      (try clear hk)
      (try clear hi)
      refine hK.out _ _ ((Up.hd HB hw176_0)) (fun hHeld => ?_)
      clear hK K
      refine Up.nm 17 ?_
      refine Up.pn 6 (some 18) ?_
      refine done_ (by kernel_rfl) ?_
      try go_wp2
      go_ret
      exact Up.e1 (Up.Bup HB)
    ·rw [if_neg c4] at H
     exact absurd H (by simp)
   ·rw [if_neg c3] at H
    have c3b0 : decide (x5_1 < (l0.length : Int)) = false:=decide_eq_false c3
    clear c3
    obtain rfl:=Option.some.inj H
    go_wp2
    go_ret
    exact Up.e1 (Up.Bup HB)

/-! ### laws_FnExactInsWords: function 5 -/
def laws_FnExactInsWords.f (k : Nat)  : Option (Bool):=(spec_InsWords.f k).bind fun t178 => ((impl_InsWords.f k).bind fun t181 => ((laws_eqStringS.f k t181 t178).bind fun t184 => (if t184 = true then ((laws_markStringS.f k t181 1).bind fun bt185 => ((laws_heldStringS.f k bt185.2 1).bind fun t187 => (if t187 < 0 then (some false) else (if t187 = bt185.1 then ((impl_InsWords.f k).bind fun t188 => ((laws_eqStringS.f k t188 t178).bind fun t191 => (if t191 = true then ((laws_heldStringS.f k bt185.2 1).bind fun t192 => (if t192 < 0 then (some false) else (if t192 = bt185.1 then (some true) else (some false)))) else (some false)))) else (some false))))) else (some false))))
theorem laws_FnExactInsWords.mono : ∀ k,LeO (laws_FnExactInsWords.f k ) (laws_FnExactInsWords.f (k + 1) ):=by
 intro  k
 unfold laws_FnExactInsWords.f
 repeat' first
   | (with_reducible exact impl_InsWords.mono _)
   | (with_reducible exact laws_eqStringS.mono _ _ _)
   | (with_reducible exact laws_heldStringS.mono _ _ _)
   | (with_reducible exact laws_markStringS.mono _ _ _)
   | (with_reducible exact spec_InsWords.mono _)
   | (with_reducible exact LeO.refl _)
   | (with_reducible exact LeO.none _)
   | (with_reducible refine LeO.ite ?_ ?_)
   | (with_reducible refine LeO.bind ?_ (fun _ => ?_))
   | exact impl_InsWords.mono _
   | exact laws_eqStringS.mono _ _ _
   | exact laws_heldStringS.mono _ _ _
   | exact laws_markStringS.mono _ _ _
   | exact spec_InsWords.mono _
   | exact LeO.none _
   | refine LeO.ite ?_ ?_
   | refine LeO.bind ?_ (fun _ => ?_)
set_option maxHeartbeats 8000000 in
set_option maxRecDepth 100000 in
theorem laws_FnExactInsWords.calls (k : Nat)  (r : Bool) (w : World) (hT_ : Tab w) (h : laws_FnExactInsWords.f k  = some r) :
  Calls Tryd.prog 5 #[] w fun e w' => e = .returned (.bool r) ∧ Below w.heap.size w w':=by
 have HB:=Aside0.mk (Below.refl w.heap.size w)
 have H : ((spec_InsWords.f k).bind fun t178 => ((impl_InsWords.f k).bind fun t181 => ((laws_eqStringS.f k t181 t178).bind fun t184 => (if t184 = true then ((laws_markStringS.f k t181 1).bind fun bt185 => ((laws_heldStringS.f k bt185.2 1).bind fun t187 => (if t187 < 0 then (some false) else (if t187 = bt185.1 then ((impl_InsWords.f k).bind fun t188 => ((laws_eqStringS.f k t188 t178).bind fun t191 => (if t191 = true then ((laws_heldStringS.f k bt185.2 1).bind fun t192 => (if t192 < 0 then (some false) else (if t192 = bt185.1 then (some true) else (some false)))) else (some false)))) else (some false))))) else (some false))))) = some r:=h
 clear h
 replace H:=Option.bind_eq_some_iff.mp H
 obtain ⟨t178,A10,H⟩:=H
 replace H : ((impl_InsWords.f k).bind fun t181 => ((laws_eqStringS.f k t181 t178).bind fun t184 => (if t184 = true then ((laws_markStringS.f k t181 1).bind fun bt185 => ((laws_heldStringS.f k bt185.2 1).bind fun t187 => (if t187 < 0 then (some false) else (if t187 = bt185.1 then ((impl_InsWords.f k).bind fun t188 => ((laws_eqStringS.f k t188 t178).bind fun t191 => (if t191 = true then ((laws_heldStringS.f k bt185.2 1).bind fun t192 => (if t192 < 0 then (some false) else (if t192 = bt185.1 then (some true) else (some false)))) else (some false)))) else (some false))))) else (some false)))) = some r:=H
 have A1:=Aside0.mk A10
 clear A10
 replace H:=Option.bind_eq_some_iff.mp H
 obtain ⟨t181,A20,H⟩:=H
 replace H : ((laws_eqStringS.f k t181 t178).bind fun t184 => (if t184 = true then ((laws_markStringS.f k t181 1).bind fun bt185 => ((laws_heldStringS.f k bt185.2 1).bind fun t187 => (if t187 < 0 then (some false) else (if t187 = bt185.1 then ((impl_InsWords.f k).bind fun t188 => ((laws_eqStringS.f k t188 t178).bind fun t191 => (if t191 = true then ((laws_heldStringS.f k bt185.2 1).bind fun t192 => (if t192 < 0 then (some false) else (if t192 = bt185.1 then (some true) else (some false)))) else (some false)))) else (some false))))) else (some false))) = some r:=H
 have A2:=Aside0.mk A20
 clear A20
 replace H:=Option.bind_eq_some_iff.mp H
 obtain ⟨t184,A30,H⟩:=H
 replace H : (if t184 = true then ((laws_markStringS.f k t181 1).bind fun bt185 => ((laws_heldStringS.f k bt185.2 1).bind fun t187 => (if t187 < 0 then (some false) else (if t187 = bt185.1 then ((impl_InsWords.f k).bind fun t188 => ((laws_eqStringS.f k t188 t178).bind fun t191 => (if t191 = true then ((laws_heldStringS.f k bt185.2 1).bind fun t192 => (if t192 < 0 then (some false) else (if t192 = bt185.1 then (some true) else (some false)))) else (some false)))) else (some false))))) else (some false)) = some r:=H
 have A3:=Aside0.mk A30
 clear A30
 by_cases c4 : t184 = true
 ·subst c4
  have H1 : ((laws_markStringS.f k t181 1).bind fun bt185 => ((laws_heldStringS.f k bt185.2 1).bind fun t187 => (if t187 < 0 then (some false) else (if t187 = bt185.1 then ((impl_InsWords.f k).bind fun t188 => ((laws_eqStringS.f k t188 t178).bind fun t191 => (if t191 = true then ((laws_heldStringS.f k bt185.2 1).bind fun t192 => (if t192 < 0 then (some false) else (if t192 = bt185.1 then (some true) else (some false)))) else (some false)))) else (some false))))) = some r:=by rw [if_pos rfl] at H;exact H
  clear H
  have H:=H1
  clear H1
  replace H:=Option.bind_eq_some_iff.mp H
  obtain ⟨⟨t185,t186⟩,A50,H⟩:=H
  replace H : ((laws_heldStringS.f k t186 1).bind fun t187 => (if t187 < 0 then (some false) else (if t187 = t185 then ((impl_InsWords.f k).bind fun t188 => ((laws_eqStringS.f k t188 t178).bind fun t191 => (if t191 = true then ((laws_heldStringS.f k t186 1).bind fun t192 => (if t192 < 0 then (some false) else (if t192 = t185 then (some true) else (some false)))) else (some false)))) else (some false)))) = some r:=H
  have A5:=Aside0.mk A50
  clear A50
  replace H:=Option.bind_eq_some_iff.mp H
  obtain ⟨t187,A60,H⟩:=H
  replace H : (if t187 < 0 then (some false) else (if t187 = t185 then ((impl_InsWords.f k).bind fun t188 => ((laws_eqStringS.f k t188 t178).bind fun t191 => (if t191 = true then ((laws_heldStringS.f k t186 1).bind fun t192 => (if t192 < 0 then (some false) else (if t192 = t185 then (some true) else (some false)))) else (some false)))) else (some false))) = some r:=H
  have A6:=Aside0.mk A60
  clear A60
  by_cases c7 : t187 < 0
  ·rw [if_pos c7] at H
   have c7b0 : decide (t187 < 0) = true:=decide_eq_true c7
   clear c7
   obtain rfl:=Option.some.inj H
   go_enter Tryd.func5,Tryd.ntmps5
   go_wp2_with (first | ((with_reducible refine gate_callee (f:=16) rfl ?_);refine Up.gl (some 6) Tryd.func16 #[] ?_;(with_reducible refine (spec_InsWords.calls k  t178 _ A1.out).mono ?_);rintro e w8 ⟨v179,rfl,ho0,hb⟩;refine ⟨_,rfl,?_⟩;have n0_:=Aside0.mk (Kd.R_lower ho0 (below_size (Up.Bup HB)));have n1_:=Up.BB HB hb;clear HB;have HO180:=n0_;have HB:=n1_;clear n0_ n1_;(try clear hb);(try clear hb2);(try clear hk);(try clear hi);(try clear ho0)) | ((with_reducible refine gate_callee (f:=15) rfl ?_);refine Up.gl (some 7) Tryd.func15 #[] ?_;(with_reducible refine (impl_InsWords.calls (hT_:=?tab1) k  t181 _ A2.out).mono ?_);(case tab1 => exact hT_.below (Up.Bx HB));rintro e w9 ⟨v182,cx182,rfl,hcx182,ho0,hb⟩;refine ⟨_,rfl,?_⟩;have n0_:=Aside0.mk (Kd.R_elder' (Up.Rup HO180) (Kd.R_base ho0) hb);have n1_:=Aside0.mk (Kd.R_lower (Kd.R_new' ho0 (Kd.R_lt (Up.Rup HO180))) (below_size (Up.Bup HB)));have n2_:=Up.BB HB hb;clear HO180 HB;have HO180:=n0_;have HO183:=n1_;have HB:=n2_;clear n0_ n1_ n2_;(try clear hb);(try clear hb2);(try clear hk);(try clear hi);(try clear ho0);obtain ⟨Ao10,co10,eo10⟩:=Kd.R_slice HO183.out;subst eo10;obtain ⟨Ao11,co11,eo11⟩:=Kd.R_slice HO180.out;subst eo11) | ((with_reducible refine gate_callee (f:=19) rfl ?_);refine Up.gl (some 10) Tryd.func19 #[.slice Ao10 t181.length cx182,.slice Ao11 t178.length co11] ?_;(with_reducible refine (laws_eqStringS.calls k _ _ t181 _ _ t178 true _ ?side1 ?side2 ?side3 ?side4 A3.out).mono ?_);(case side1 => repeat (first | exact (Kd.R_reads' HO183.out).2.2 | (with_reducible refine Kd.C_alloc ?_ _) | (with_reducible refine Kd.C_drewN ?_ _) | (with_reducible refine Kd.C_drew ?_)));(case side2 => first | exact hcx182 _ _ _ rfl | (refine Nat.le_trans (Nat.le_of_eq ?_) (hcx182 _ _ _ rfl);first | exact (Kd.R_reads' HO183.out).1 | exact (Kd.R_reads' HO183.out).1.symm));(case side3 => repeat (first | exact (Kd.R_reads' HO180.out).2.2 | (with_reducible refine Kd.C_alloc ?_ _) | (with_reducible refine Kd.C_drewN ?_ _) | (with_reducible refine Kd.C_drew ?_)));(case side4 => exact (Kd.R_reads' HO180.out).2.1);rintro e w' ⟨rfl,⟨nd,rfl⟩⟩;refine ⟨_,rfl,?_⟩) | ((with_reducible refine gate_callee (f:=20) rfl ?_);refine Up.gl (some 14) Tryd.func20 #[.slice Ao10 t181.length cx182,.int .i64 1] ?_;(with_reducible refine (laws_markStringS.calls k (fun k_ => some k_ = (.slice Ao10 t181.length co10 : Value).ownBlock) Ao10 t181.length co10 cx182 (hcx182 _ _ _ rfl) t181 1 t185 t186 w _ ?side1 ?side2 A5.out).mono ?_);(case side1 => repeat (first | (with_reducible first | exact HB.out | apply below_alloc | apply pw_below_drewN | apply below_drew1) | exact HB.out));(case side2 => exact Kd.R_tight rfl HO183.out);rintro e w12 ⟨rfl,hy0,hb,hkp⟩;refine ⟨_,rfl,?_⟩;have n0_:=Aside0.mk (Kd.R_mono (ok':=fun k_ => some k_ ≠ (.slice Ao10 t181.length co10 : Value).ownBlock) (Kd.R_keptB (HO180.out) hkp (fun k_ hk_ hs_ => (hk_.2) hs_)) (fun k_ hk_ => hk_.1.2));have n1_:=Aside0.mk (Kd.R_reok rfl hy0 (fun k_ e_ => HO183.out.1 k_ e_));have n2_:=Aside0.mk (hb);clear HO180 HO183 HB;have HO180:=n0_;have HO183:=n1_;have HB:=n2_;clear n0_ n1_ n2_;(try clear hb);(try clear hkp);(try clear hy0)) | ((with_reducible refine gate_callee (f:=21) rfl ?_);refine goesL_ (some 17) rfl rfl Tryd.func21 (by kernel_rfl) rfl #[.slice Ao10 t186.length cx182,.int .i64 1] rfl (by (try simp only [List.map_toArray,List.map_cons,List.map_nil]);first | done | (rw [show t186.length = t181.length from (Kd.R_reads' HO183.out).1.symm] <;> rfl) | rfl | (simp only [List.length_drop,List.length_take];rfl)) ?_;(with_reducible refine (laws_heldStringS.calls k _ _ t186 1 t187 _ ?side1 ?side2 A6.out).mono ?_);(case side1 => repeat (first | exact (Kd.R_reads' HO183.out).2.2 | (with_reducible refine Kd.C_alloc ?_ _) | (with_reducible refine Kd.C_drewN ?_ _) | (with_reducible refine Kd.C_drew ?_)));(case side2 => rw [show t186.length = t181.length from (Kd.R_reads' HO183.out).1.symm];exact hcx182 _ _ _ rfl);rintro e w13 ⟨rfl,hb⟩;refine ⟨_,rfl,?_⟩;have n0_:=Up.RB HO180 hb;have n1_:=Up.RB HO183 hb;have n2_:=Up.BB HB hb;clear HO180 HO183 HB;have HO180:=n0_;have HO183:=n1_;have HB:=n2_;clear n0_ n1_ n2_;(try clear hb);(try clear hb2);(try clear hk);(try clear hi)))
   go_ret
   exact Up.e1 (Up.Bup HB)
  ·rw [if_neg c7] at H
   have c7b0 : decide (t187 < 0) = false:=decide_eq_false c7
   clear c7
   by_cases c14 : t187 = t185
   ·rw [if_pos c14] at H
    have c14b0 : (t187 == t185) = true:=beq_iff_eq.mpr c14
    have c14b1 : (t187 != t185) = false:=bne_eq_false_iff_eq.mpr c14
    clear c14
    replace H:=Option.bind_eq_some_iff.mp H
    obtain ⟨t188,A150,H⟩:=H
    replace H : ((laws_eqStringS.f k t188 t178).bind fun t191 => (if t191 = true then ((laws_heldStringS.f k t186 1).bind fun t192 => (if t192 < 0 then (some false) else (if t192 = t185 then (some true) else (some false)))) else (some false))) = some r:=H
    have A15:=Aside0.mk A150
    clear A150
    replace H:=Option.bind_eq_some_iff.mp H
    obtain ⟨t191,A160,H⟩:=H
    replace H : (if t191 = true then ((laws_heldStringS.f k t186 1).bind fun t192 => (if t192 < 0 then (some false) else (if t192 = t185 then (some true) else (some false)))) else (some false)) = some r:=H
    have A16:=Aside0.mk A160
    clear A160
    by_cases c17 : t191 = true
    ·subst c17
     have H1 : ((laws_heldStringS.f k t186 1).bind fun t192 => (if t192 < 0 then (some false) else (if t192 = t185 then (some true) else (some false)))) = some r:=by rw [if_pos rfl] at H;exact H
     clear H
     have H:=H1
     clear H1
     replace H:=Option.bind_eq_some_iff.mp H
     obtain ⟨t192,A180,H⟩:=H
     replace H : (if t192 < 0 then (some false) else (if t192 = t185 then (some true) else (some false))) = some r:=H
     have A18:=Aside0.mk A180
     clear A180
     by_cases c19 : t192 < 0
     ·rw [if_pos c19] at H
      have c19b0 : decide (t192 < 0) = true:=decide_eq_true c19
      clear c19
      obtain rfl:=Option.some.inj H
      go_enter Tryd.func5,Tryd.ntmps5
      go_wp2_with (first | ((with_reducible refine gate_callee (f:=16) rfl ?_);refine Up.gl (some 6) Tryd.func16 #[] ?_;(with_reducible refine (spec_InsWords.calls k  t178 _ A1.out).mono ?_);rintro e w20 ⟨v179,rfl,ho0,hb⟩;refine ⟨_,rfl,?_⟩;have n0_:=Aside0.mk (Kd.R_lower ho0 (below_size (Up.Bup HB)));have n1_:=Up.BB HB hb;clear HB;have HO180:=n0_;have HB:=n1_;clear n0_ n1_;(try clear hb);(try clear hb2);(try clear hk);(try clear hi);(try clear ho0)) | ((with_reducible refine gate_callee (f:=15) rfl ?_);refine Up.gl (some 7) Tryd.func15 #[] ?_;(with_reducible refine (impl_InsWords.calls (hT_:=?tab1) k  t181 _ A2.out).mono ?_);(case tab1 => exact hT_.below (Up.Bx HB));rintro e w21 ⟨v182,cx182,rfl,hcx182,ho0,hb⟩;refine ⟨_,rfl,?_⟩;have n0_:=Aside0.mk (Kd.R_elder' (Up.Rup HO180) (Kd.R_base ho0) hb);have n1_:=Aside0.mk (Kd.R_lower (Kd.R_new' ho0 (Kd.R_lt (Up.Rup HO180))) (below_size (Up.Bup HB)));have n2_:=Up.BB HB hb;clear HO180 HB;have HO180:=n0_;have HO183:=n1_;have HB:=n2_;clear n0_ n1_ n2_;(try clear hb);(try clear hb2);(try clear hk);(try clear hi);(try clear ho0);obtain ⟨Ao22,co22,eo22⟩:=Kd.R_slice HO183.out;subst eo22;obtain ⟨Ao23,co23,eo23⟩:=Kd.R_slice HO180.out;subst eo23) | ((with_reducible refine gate_callee (f:=19) rfl ?_);refine Up.gl (some 10) Tryd.func19 #[.slice Ao22 t181.length cx182,.slice Ao23 t178.length co23] ?_;(with_reducible refine (laws_eqStringS.calls k _ _ t181 _ _ t178 true _ ?side1 ?side2 ?side3 ?side4 A3.out).mono ?_);(case side1 => repeat (first | exact (Kd.R_reads' HO183.out).2.2 | (with_reducible refine Kd.C_alloc ?_ _) | (with_reducible refine Kd.C_drewN ?_ _) | (with_reducible refine Kd.C_drew ?_)));(case side2 => first | exact hcx182 _ _ _ rfl | (refine Nat.le_trans (Nat.le_of_eq ?_) (hcx182 _ _ _ rfl);first | exact (Kd.R_reads' HO183.out).1 | exact (Kd.R_reads' HO183.out).1.symm));(case side3 => repeat (first | exact (Kd.R_reads' HO180.out).2.2 | (with_reducible refine Kd.C_alloc ?_ _) | (with_reducible refine Kd.C_drewN ?_ _) | (with_reducible refine Kd.C_drew ?_)));(case side4 => exact (Kd.R_reads' HO180.out).2.1);rintro e w' ⟨rfl,⟨nd,rfl⟩⟩;refine ⟨_,rfl,?_⟩) | ((with_reducible refine gate_callee (f:=20) rfl ?_);refine Up.gl (some 14) Tryd.func20 #[.slice Ao22 t181.length cx182,.int .i64 1] ?_;(with_reducible refine (laws_markStringS.calls k (fun k_ => some k_ = (.slice Ao22 t181.length co22 : Value).ownBlock) Ao22 t181.length co22 cx182 (hcx182 _ _ _ rfl) t181 1 t185 t186 w _ ?side1 ?side2 A5.out).mono ?_);(case side1 => repeat (first | (with_reducible first | exact HB.out | apply below_alloc | apply pw_below_drewN | apply below_drew1) | exact HB.out));(case side2 => exact Kd.R_tight rfl HO183.out);rintro e w24 ⟨rfl,hy0,hb,hkp⟩;refine ⟨_,rfl,?_⟩;have n0_:=Aside0.mk (Kd.R_mono (ok':=fun k_ => some k_ ≠ (.slice Ao22 t181.length co22 : Value).ownBlock) (Kd.R_keptB (HO180.out) hkp (fun k_ hk_ hs_ => (hk_.2) hs_)) (fun k_ hk_ => hk_.1.2));have n1_:=Aside0.mk (Kd.R_reok rfl hy0 (fun k_ e_ => HO183.out.1 k_ e_));have n2_:=Aside0.mk (hb);clear HO180 HO183 HB;have HO180:=n0_;have HO183:=n1_;have HB:=n2_;clear n0_ n1_ n2_;(try clear hb);(try clear hkp);(try clear hy0)) | ((with_reducible refine gate_callee (f:=21) rfl ?_);refine goesL_ (some 17) rfl rfl Tryd.func21 (by kernel_rfl) rfl #[.slice Ao22 t186.length cx182,.int .i64 1] rfl (by (try simp only [List.map_toArray,List.map_cons,List.map_nil]);first | done | (rw [show t186.length = t181.length from (Kd.R_reads' HO183.out).1.symm] <;> rfl) | rfl | (simp only [List.length_drop,List.length_take];rfl)) ?_;(with_reducible refine (laws_heldStringS.calls k _ _ t186 1 t187 _ ?side1 ?side2 A6.out).mono ?_);(case side1 => repeat (first | exact (Kd.R_reads' HO183.out).2.2 | (with_reducible refine Kd.C_alloc ?_ _) | (with_reducible refine Kd.C_drewN ?_ _) | (with_reducible refine Kd.C_drew ?_)));(case side2 => rw [show t186.length = t181.length from (Kd.R_reads' HO183.out).1.symm];exact hcx182 _ _ _ rfl);rintro e w25 ⟨rfl,hb⟩;refine ⟨_,rfl,?_⟩;have n0_:=Up.RB HO180 hb;have n1_:=Up.RB HO183 hb;have n2_:=Up.BB HB hb;clear HO180 HO183 HB;have HO180:=n0_;have HO183:=n1_;have HB:=n2_;clear n0_ n1_ n2_;(try clear hb);(try clear hb2);(try clear hk);(try clear hi)) | ((with_reducible refine gate_callee (f:=15) rfl ?_);refine Up.gl (some 23) Tryd.func15 #[] ?_;(with_reducible refine (impl_InsWords.calls (hT_:=?tab1) k  t188 _ A15.out).mono ?_);(case tab1 => exact hT_.below (Up.Bx HB));rintro e w26 ⟨v189,cx189,rfl,hcx189,ho0,hb⟩;refine ⟨_,rfl,?_⟩;have n0_:=Aside0.mk (Kd.R_elder' (Up.Rup HO180) (Kd.R_base ho0) hb);have n1_:=Aside0.mk (Kd.R_elder' (Up.Rup HO183) (Kd.R_base ho0) hb);have n2_:=Aside0.mk (Kd.R_lower (Kd.R_new' (Kd.R_new' ho0 (Kd.R_lt (Up.Rup HO180))) (Kd.R_lt (Up.Rup HO183))) (below_size (Up.Bup HB)));have n3_:=Up.BB HB hb;clear HO180 HO183 HB;have HO180:=n0_;have HO183:=n1_;have HO190:=n2_;have HB:=n3_;clear n0_ n1_ n2_ n3_;(try clear hb);(try clear hb2);(try clear hk);(try clear hi);(try clear ho0);obtain ⟨Ao27,co27,eo27⟩:=Kd.R_slice HO190.out;subst eo27) | ((with_reducible refine gate_callee (f:=19) rfl ?_);refine Up.gl (some 26) Tryd.func19 #[.slice Ao27 t188.length cx189,.slice Ao23 t178.length co23] ?_;(with_reducible refine (laws_eqStringS.calls k _ _ t188 _ _ t178 true _ ?side1 ?side2 ?side3 ?side4 A16.out).mono ?_);(case side1 => repeat (first | exact (Kd.R_reads' HO190.out).2.2 | (with_reducible refine Kd.C_alloc ?_ _) | (with_reducible refine Kd.C_drewN ?_ _) | (with_reducible refine Kd.C_drew ?_)));(case side2 => first | exact hcx189 _ _ _ rfl | (refine Nat.le_trans (Nat.le_of_eq ?_) (hcx189 _ _ _ rfl);first | exact (Kd.R_reads' HO190.out).1 | exact (Kd.R_reads' HO190.out).1.symm));(case side3 => repeat (first | exact (Kd.R_reads' HO180.out).2.2 | (with_reducible refine Kd.C_alloc ?_ _) | (with_reducible refine Kd.C_drewN ?_ _) | (with_reducible refine Kd.C_drew ?_)));(case side4 => exact (Kd.R_reads' HO180.out).2.1);rintro e w' ⟨rfl,⟨nd,rfl⟩⟩;refine ⟨_,rfl,?_⟩) | ((with_reducible refine gate_callee (f:=21) rfl ?_);refine goesL_ (some 30) rfl rfl Tryd.func21 (by kernel_rfl) rfl #[.slice Ao22 t186.length cx182,.int .i64 1] rfl (by (try simp only [List.map_toArray,List.map_cons,List.map_nil]);first | done | (rw [show t186.length = t181.length from (Kd.R_reads' HO183.out).1.symm] <;> rfl) | rfl | (simp only [List.length_drop,List.length_take];rfl)) ?_;(with_reducible refine (laws_heldStringS.calls k _ _ t186 1 t192 _ ?side1 ?side2 A18.out).mono ?_);(case side1 => repeat (first | exact (Kd.R_reads' HO183.out).2.2 | (with_reducible refine Kd.C_alloc ?_ _) | (with_reducible refine Kd.C_drewN ?_ _) | (with_reducible refine Kd.C_drew ?_)));(case side2 => rw [show t186.length = t181.length from (Kd.R_reads' HO183.out).1.symm];exact hcx182 _ _ _ rfl);rintro e w28 ⟨rfl,hb⟩;refine ⟨_,rfl,?_⟩;have n0_:=Up.RB HO180 hb;have n1_:=Up.RB HO183 hb;have n2_:=Up.RB HO190 hb;have n3_:=Up.BB HB hb;clear HO180 HO183 HO190 HB;have HO180:=n0_;have HO183:=n1_;have HO190:=n2_;have HB:=n3_;clear n0_ n1_ n2_ n3_;(try clear hb);(try clear hb2);(try clear hk);(try clear hi)))
      go_ret
      exact Up.e1 (Up.Bup HB)
     ·rw [if_neg c19] at H
      have c19b0 : decide (t192 < 0) = false:=decide_eq_false c19
      clear c19
      by_cases c29 : t192 = t185
      ·rw [if_pos c29] at H
       have c29b0 : (t192 == t185) = true:=beq_iff_eq.mpr c29
       have c29b1 : (t192 != t185) = false:=bne_eq_false_iff_eq.mpr c29
       clear c29
       obtain rfl:=Option.some.inj H
       go_enter Tryd.func5,Tryd.ntmps5
       go_wp2_with (first | ((with_reducible refine gate_callee (f:=16) rfl ?_);refine Up.gl (some 6) Tryd.func16 #[] ?_;(with_reducible refine (spec_InsWords.calls k  t178 _ A1.out).mono ?_);rintro e w30 ⟨v179,rfl,ho0,hb⟩;refine ⟨_,rfl,?_⟩;have n0_:=Aside0.mk (Kd.R_lower ho0 (below_size (Up.Bup HB)));have n1_:=Up.BB HB hb;clear HB;have HO180:=n0_;have HB:=n1_;clear n0_ n1_;(try clear hb);(try clear hb2);(try clear hk);(try clear hi);(try clear ho0)) | ((with_reducible refine gate_callee (f:=15) rfl ?_);refine Up.gl (some 7) Tryd.func15 #[] ?_;(with_reducible refine (impl_InsWords.calls (hT_:=?tab1) k  t181 _ A2.out).mono ?_);(case tab1 => exact hT_.below (Up.Bx HB));rintro e w31 ⟨v182,cx182,rfl,hcx182,ho0,hb⟩;refine ⟨_,rfl,?_⟩;have n0_:=Aside0.mk (Kd.R_elder' (Up.Rup HO180) (Kd.R_base ho0) hb);have n1_:=Aside0.mk (Kd.R_lower (Kd.R_new' ho0 (Kd.R_lt (Up.Rup HO180))) (below_size (Up.Bup HB)));have n2_:=Up.BB HB hb;clear HO180 HB;have HO180:=n0_;have HO183:=n1_;have HB:=n2_;clear n0_ n1_ n2_;(try clear hb);(try clear hb2);(try clear hk);(try clear hi);(try clear ho0);obtain ⟨Ao32,co32,eo32⟩:=Kd.R_slice HO183.out;subst eo32;obtain ⟨Ao33,co33,eo33⟩:=Kd.R_slice HO180.out;subst eo33) | ((with_reducible refine gate_callee (f:=19) rfl ?_);refine Up.gl (some 10) Tryd.func19 #[.slice Ao32 t181.length cx182,.slice Ao33 t178.length co33] ?_;(with_reducible refine (laws_eqStringS.calls k _ _ t181 _ _ t178 true _ ?side1 ?side2 ?side3 ?side4 A3.out).mono ?_);(case side1 => repeat (first | exact (Kd.R_reads' HO183.out).2.2 | (with_reducible refine Kd.C_alloc ?_ _) | (with_reducible refine Kd.C_drewN ?_ _) | (with_reducible refine Kd.C_drew ?_)));(case side2 => first | exact hcx182 _ _ _ rfl | (refine Nat.le_trans (Nat.le_of_eq ?_) (hcx182 _ _ _ rfl);first | exact (Kd.R_reads' HO183.out).1 | exact (Kd.R_reads' HO183.out).1.symm));(case side3 => repeat (first | exact (Kd.R_reads' HO180.out).2.2 | (with_reducible refine Kd.C_alloc ?_ _) | (with_reducible refine Kd.C_drewN ?_ _) | (with_reducible refine Kd.C_drew ?_)));(case side4 => exact (Kd.R_reads' HO180.out).2.1);rintro e w' ⟨rfl,⟨nd,rfl⟩⟩;refine ⟨_,rfl,?_⟩) | ((with_reducible refine gate_callee (f:=20) rfl ?_);refine Up.gl (some 14) Tryd.func20 #[.slice Ao32 t181.length cx182,.int .i64 1] ?_;(with_reducible refine (laws_markStringS.calls k (fun k_ => some k_ = (.slice Ao32 t181.length co32 : Value).ownBlock) Ao32 t181.length co32 cx182 (hcx182 _ _ _ rfl) t181 1 t185 t186 w _ ?side1 ?side2 A5.out).mono ?_);(case side1 => repeat (first | (with_reducible first | exact HB.out | apply below_alloc | apply pw_below_drewN | apply below_drew1) | exact HB.out));(case side2 => exact Kd.R_tight rfl HO183.out);rintro e w34 ⟨rfl,hy0,hb,hkp⟩;refine ⟨_,rfl,?_⟩;have n0_:=Aside0.mk (Kd.R_mono (ok':=fun k_ => some k_ ≠ (.slice Ao32 t181.length co32 : Value).ownBlock) (Kd.R_keptB (HO180.out) hkp (fun k_ hk_ hs_ => (hk_.2) hs_)) (fun k_ hk_ => hk_.1.2));have n1_:=Aside0.mk (Kd.R_reok rfl hy0 (fun k_ e_ => HO183.out.1 k_ e_));have n2_:=Aside0.mk (hb);clear HO180 HO183 HB;have HO180:=n0_;have HO183:=n1_;have HB:=n2_;clear n0_ n1_ n2_;(try clear hb);(try clear hkp);(try clear hy0)) | ((with_reducible refine gate_callee (f:=21) rfl ?_);refine goesL_ (some 17) rfl rfl Tryd.func21 (by kernel_rfl) rfl #[.slice Ao32 t186.length cx182,.int .i64 1] rfl (by (try simp only [List.map_toArray,List.map_cons,List.map_nil]);first | done | (rw [show t186.length = t181.length from (Kd.R_reads' HO183.out).1.symm] <;> rfl) | rfl | (simp only [List.length_drop,List.length_take];rfl)) ?_;(with_reducible refine (laws_heldStringS.calls k _ _ t186 1 t187 _ ?side1 ?side2 A6.out).mono ?_);(case side1 => repeat (first | exact (Kd.R_reads' HO183.out).2.2 | (with_reducible refine Kd.C_alloc ?_ _) | (with_reducible refine Kd.C_drewN ?_ _) | (with_reducible refine Kd.C_drew ?_)));(case side2 => rw [show t186.length = t181.length from (Kd.R_reads' HO183.out).1.symm];exact hcx182 _ _ _ rfl);rintro e w35 ⟨rfl,hb⟩;refine ⟨_,rfl,?_⟩;have n0_:=Up.RB HO180 hb;have n1_:=Up.RB HO183 hb;have n2_:=Up.BB HB hb;clear HO180 HO183 HB;have HO180:=n0_;have HO183:=n1_;have HB:=n2_;clear n0_ n1_ n2_;(try clear hb);(try clear hb2);(try clear hk);(try clear hi)) | ((with_reducible refine gate_callee (f:=15) rfl ?_);refine Up.gl (some 23) Tryd.func15 #[] ?_;(with_reducible refine (impl_InsWords.calls (hT_:=?tab1) k  t188 _ A15.out).mono ?_);(case tab1 => exact hT_.below (Up.Bx HB));rintro e w36 ⟨v189,cx189,rfl,hcx189,ho0,hb⟩;refine ⟨_,rfl,?_⟩;have n0_:=Aside0.mk (Kd.R_elder' (Up.Rup HO180) (Kd.R_base ho0) hb);have n1_:=Aside0.mk (Kd.R_elder' (Up.Rup HO183) (Kd.R_base ho0) hb);have n2_:=Aside0.mk (Kd.R_lower (Kd.R_new' (Kd.R_new' ho0 (Kd.R_lt (Up.Rup HO180))) (Kd.R_lt (Up.Rup HO183))) (below_size (Up.Bup HB)));have n3_:=Up.BB HB hb;clear HO180 HO183 HB;have HO180:=n0_;have HO183:=n1_;have HO190:=n2_;have HB:=n3_;clear n0_ n1_ n2_ n3_;(try clear hb);(try clear hb2);(try clear hk);(try clear hi);(try clear ho0);obtain ⟨Ao37,co37,eo37⟩:=Kd.R_slice HO190.out;subst eo37) | ((with_reducible refine gate_callee (f:=19) rfl ?_);refine Up.gl (some 26) Tryd.func19 #[.slice Ao37 t188.length cx189,.slice Ao33 t178.length co33] ?_;(with_reducible refine (laws_eqStringS.calls k _ _ t188 _ _ t178 true _ ?side1 ?side2 ?side3 ?side4 A16.out).mono ?_);(case side1 => repeat (first | exact (Kd.R_reads' HO190.out).2.2 | (with_reducible refine Kd.C_alloc ?_ _) | (with_reducible refine Kd.C_drewN ?_ _) | (with_reducible refine Kd.C_drew ?_)));(case side2 => first | exact hcx189 _ _ _ rfl | (refine Nat.le_trans (Nat.le_of_eq ?_) (hcx189 _ _ _ rfl);first | exact (Kd.R_reads' HO190.out).1 | exact (Kd.R_reads' HO190.out).1.symm));(case side3 => repeat (first | exact (Kd.R_reads' HO180.out).2.2 | (with_reducible refine Kd.C_alloc ?_ _) | (with_reducible refine Kd.C_drewN ?_ _) | (with_reducible refine Kd.C_drew ?_)));(case side4 => exact (Kd.R_reads' HO180.out).2.1);rintro e w' ⟨rfl,⟨nd,rfl⟩⟩;refine ⟨_,rfl,?_⟩) | ((with_reducible refine gate_callee (f:=21) rfl ?_);refine goesL_ (some 30) rfl rfl Tryd.func21 (by kernel_rfl) rfl #[.slice Ao32 t186.length cx182,.int .i64 1] rfl (by (try simp only [List.map_toArray,List.map_cons,List.map_nil]);first | done | (rw [show t186.length = t181.length from (Kd.R_reads' HO183.out).1.symm] <;> rfl) | rfl | (simp only [List.length_drop,List.length_take];rfl)) ?_;(with_reducible refine (laws_heldStringS.calls k _ _ t186 1 t192 _ ?side1 ?side2 A18.out).mono ?_);(case side1 => repeat (first | exact (Kd.R_reads' HO183.out).2.2 | (with_reducible refine Kd.C_alloc ?_ _) | (with_reducible refine Kd.C_drewN ?_ _) | (with_reducible refine Kd.C_drew ?_)));(case side2 => rw [show t186.length = t181.length from (Kd.R_reads' HO183.out).1.symm];exact hcx182 _ _ _ rfl);rintro e w38 ⟨rfl,hb⟩;refine ⟨_,rfl,?_⟩;have n0_:=Up.RB HO180 hb;have n1_:=Up.RB HO183 hb;have n2_:=Up.RB HO190 hb;have n3_:=Up.BB HB hb;clear HO180 HO183 HO190 HB;have HO180:=n0_;have HO183:=n1_;have HO190:=n2_;have HB:=n3_;clear n0_ n1_ n2_ n3_;(try clear hb);(try clear hb2);(try clear hk);(try clear hi)))
       go_ret
       exact Up.e1 (Up.Bup HB)
      ·rw [if_neg c29] at H
       have c29b0 : (t192 == t185) = false:=beq_eq_false_iff_ne.mpr c29
       have c29b1 : (t192 != t185) = true:=bne_iff_ne.mpr c29
       obtain rfl:=Option.some.inj H
       go_enter Tryd.func5,Tryd.ntmps5
       go_wp2_with (first | ((with_reducible refine gate_callee (f:=16) rfl ?_);refine Up.gl (some 6) Tryd.func16 #[] ?_;(with_reducible refine (spec_InsWords.calls k  t178 _ A1.out).mono ?_);rintro e w39 ⟨v179,rfl,ho0,hb⟩;refine ⟨_,rfl,?_⟩;have n0_:=Aside0.mk (Kd.R_lower ho0 (below_size (Up.Bup HB)));have n1_:=Up.BB HB hb;clear HB;have HO180:=n0_;have HB:=n1_;clear n0_ n1_;(try clear hb);(try clear hb2);(try clear hk);(try clear hi);(try clear ho0)) | ((with_reducible refine gate_callee (f:=15) rfl ?_);refine Up.gl (some 7) Tryd.func15 #[] ?_;(with_reducible refine (impl_InsWords.calls (hT_:=?tab1) k  t181 _ A2.out).mono ?_);(case tab1 => exact hT_.below (Up.Bx HB));rintro e w40 ⟨v182,cx182,rfl,hcx182,ho0,hb⟩;refine ⟨_,rfl,?_⟩;have n0_:=Aside0.mk (Kd.R_elder' (Up.Rup HO180) (Kd.R_base ho0) hb);have n1_:=Aside0.mk (Kd.R_lower (Kd.R_new' ho0 (Kd.R_lt (Up.Rup HO180))) (below_size (Up.Bup HB)));have n2_:=Up.BB HB hb;clear HO180 HB;have HO180:=n0_;have HO183:=n1_;have HB:=n2_;clear n0_ n1_ n2_;(try clear hb);(try clear hb2);(try clear hk);(try clear hi);(try clear ho0);obtain ⟨Ao41,co41,eo41⟩:=Kd.R_slice HO183.out;subst eo41;obtain ⟨Ao42,co42,eo42⟩:=Kd.R_slice HO180.out;subst eo42) | ((with_reducible refine gate_callee (f:=19) rfl ?_);refine Up.gl (some 10) Tryd.func19 #[.slice Ao41 t181.length cx182,.slice Ao42 t178.length co42] ?_;(with_reducible refine (laws_eqStringS.calls k _ _ t181 _ _ t178 true _ ?side1 ?side2 ?side3 ?side4 A3.out).mono ?_);(case side1 => repeat (first | exact (Kd.R_reads' HO183.out).2.2 | (with_reducible refine Kd.C_alloc ?_ _) | (with_reducible refine Kd.C_drewN ?_ _) | (with_reducible refine Kd.C_drew ?_)));(case side2 => first | exact hcx182 _ _ _ rfl | (refine Nat.le_trans (Nat.le_of_eq ?_) (hcx182 _ _ _ rfl);first | exact (Kd.R_reads' HO183.out).1 | exact (Kd.R_reads' HO183.out).1.symm));(case side3 => repeat (first | exact (Kd.R_reads' HO180.out).2.2 | (with_reducible refine Kd.C_alloc ?_ _) | (with_reducible refine Kd.C_drewN ?_ _) | (with_reducible refine Kd.C_drew ?_)));(case side4 => exact (Kd.R_reads' HO180.out).2.1);rintro e w' ⟨rfl,⟨nd,rfl⟩⟩;refine ⟨_,rfl,?_⟩) | ((with_reducible refine gate_callee (f:=20) rfl ?_);refine Up.gl (some 14) Tryd.func20 #[.slice Ao41 t181.length cx182,.int .i64 1] ?_;(with_reducible refine (laws_markStringS.calls k (fun k_ => some k_ = (.slice Ao41 t181.length co41 : Value).ownBlock) Ao41 t181.length co41 cx182 (hcx182 _ _ _ rfl) t181 1 t185 t186 w _ ?side1 ?side2 A5.out).mono ?_);(case side1 => repeat (first | (with_reducible first | exact HB.out | apply below_alloc | apply pw_below_drewN | apply below_drew1) | exact HB.out));(case side2 => exact Kd.R_tight rfl HO183.out);rintro e w43 ⟨rfl,hy0,hb,hkp⟩;refine ⟨_,rfl,?_⟩;have n0_:=Aside0.mk (Kd.R_mono (ok':=fun k_ => some k_ ≠ (.slice Ao41 t181.length co41 : Value).ownBlock) (Kd.R_keptB (HO180.out) hkp (fun k_ hk_ hs_ => (hk_.2) hs_)) (fun k_ hk_ => hk_.1.2));have n1_:=Aside0.mk (Kd.R_reok rfl hy0 (fun k_ e_ => HO183.out.1 k_ e_));have n2_:=Aside0.mk (hb);clear HO180 HO183 HB;have HO180:=n0_;have HO183:=n1_;have HB:=n2_;clear n0_ n1_ n2_;(try clear hb);(try clear hkp);(try clear hy0)) | ((with_reducible refine gate_callee (f:=21) rfl ?_);refine goesL_ (some 17) rfl rfl Tryd.func21 (by kernel_rfl) rfl #[.slice Ao41 t186.length cx182,.int .i64 1] rfl (by (try simp only [List.map_toArray,List.map_cons,List.map_nil]);first | done | (rw [show t186.length = t181.length from (Kd.R_reads' HO183.out).1.symm] <;> rfl) | rfl | (simp only [List.length_drop,List.length_take];rfl)) ?_;(with_reducible refine (laws_heldStringS.calls k _ _ t186 1 t187 _ ?side1 ?side2 A6.out).mono ?_);(case side1 => repeat (first | exact (Kd.R_reads' HO183.out).2.2 | (with_reducible refine Kd.C_alloc ?_ _) | (with_reducible refine Kd.C_drewN ?_ _) | (with_reducible refine Kd.C_drew ?_)));(case side2 => rw [show t186.length = t181.length from (Kd.R_reads' HO183.out).1.symm];exact hcx182 _ _ _ rfl);rintro e w44 ⟨rfl,hb⟩;refine ⟨_,rfl,?_⟩;have n0_:=Up.RB HO180 hb;have n1_:=Up.RB HO183 hb;have n2_:=Up.BB HB hb;clear HO180 HO183 HB;have HO180:=n0_;have HO183:=n1_;have HB:=n2_;clear n0_ n1_ n2_;(try clear hb);(try clear hb2);(try clear hk);(try clear hi)) | ((with_reducible refine gate_callee (f:=15) rfl ?_);refine Up.gl (some 23) Tryd.func15 #[] ?_;(with_reducible refine (impl_InsWords.calls (hT_:=?tab1) k  t188 _ A15.out).mono ?_);(case tab1 => exact hT_.below (Up.Bx HB));rintro e w45 ⟨v189,cx189,rfl,hcx189,ho0,hb⟩;refine ⟨_,rfl,?_⟩;have n0_:=Aside0.mk (Kd.R_elder' (Up.Rup HO180) (Kd.R_base ho0) hb);have n1_:=Aside0.mk (Kd.R_elder' (Up.Rup HO183) (Kd.R_base ho0) hb);have n2_:=Aside0.mk (Kd.R_lower (Kd.R_new' (Kd.R_new' ho0 (Kd.R_lt (Up.Rup HO180))) (Kd.R_lt (Up.Rup HO183))) (below_size (Up.Bup HB)));have n3_:=Up.BB HB hb;clear HO180 HO183 HB;have HO180:=n0_;have HO183:=n1_;have HO190:=n2_;have HB:=n3_;clear n0_ n1_ n2_ n3_;(try clear hb);(try clear hb2);(try clear hk);(try clear hi);(try clear ho0);obtain ⟨Ao46,co46,eo46⟩:=Kd.R_slice HO190.out;subst eo46) | ((with_reducible refine gate_callee (f:=19) rfl ?_);refine Up.gl (some 26) Tryd.func19 #[.slice Ao46 t188.length cx189,.slice Ao42 t178.length co42] ?_;(with_reducible refine (laws_eqStringS.calls k _ _ t188 _ _ t178 true _ ?side1 ?side2 ?side3 ?side4 A16.out).mono ?_);(case side1 => repeat (first | exact (Kd.R_reads' HO190.out).2.2 | (with_reducible refine Kd.C_alloc ?_ _) | (with_reducible refine Kd.C_drewN ?_ _) | (with_reducible refine Kd.C_drew ?_)));(case side2 => first | exact hcx189 _ _ _ rfl | (refine Nat.le_trans (Nat.le_of_eq ?_) (hcx189 _ _ _ rfl);first | exact (Kd.R_reads' HO190.out).1 | exact (Kd.R_reads' HO190.out).1.symm));(case side3 => repeat (first | exact (Kd.R_reads' HO180.out).2.2 | (with_reducible refine Kd.C_alloc ?_ _) | (with_reducible refine Kd.C_drewN ?_ _) | (with_reducible refine Kd.C_drew ?_)));(case side4 => exact (Kd.R_reads' HO180.out).2.1);rintro e w' ⟨rfl,⟨nd,rfl⟩⟩;refine ⟨_,rfl,?_⟩) | ((with_reducible refine gate_callee (f:=21) rfl ?_);refine goesL_ (some 30) rfl rfl Tryd.func21 (by kernel_rfl) rfl #[.slice Ao41 t186.length cx182,.int .i64 1] rfl (by (try simp only [List.map_toArray,List.map_cons,List.map_nil]);first | done | (rw [show t186.length = t181.length from (Kd.R_reads' HO183.out).1.symm] <;> rfl) | rfl | (simp only [List.length_drop,List.length_take];rfl)) ?_;(with_reducible refine (laws_heldStringS.calls k _ _ t186 1 t192 _ ?side1 ?side2 A18.out).mono ?_);(case side1 => repeat (first | exact (Kd.R_reads' HO183.out).2.2 | (with_reducible refine Kd.C_alloc ?_ _) | (with_reducible refine Kd.C_drewN ?_ _) | (with_reducible refine Kd.C_drew ?_)));(case side2 => rw [show t186.length = t181.length from (Kd.R_reads' HO183.out).1.symm];exact hcx182 _ _ _ rfl);rintro e w47 ⟨rfl,hb⟩;refine ⟨_,rfl,?_⟩;have n0_:=Up.RB HO180 hb;have n1_:=Up.RB HO183 hb;have n2_:=Up.RB HO190 hb;have n3_:=Up.BB HB hb;clear HO180 HO183 HO190 HB;have HO180:=n0_;have HO183:=n1_;have HO190:=n2_;have HB:=n3_;clear n0_ n1_ n2_ n3_;(try clear hb);(try clear hb2);(try clear hk);(try clear hi)))
       go_ret
       exact Up.e1 (Up.Bup HB)
    ·replace c17:=Bool.eq_false_iff.mpr c17
     subst c17
     have H1 : (some false) = some r:=by rw [if_neg (show ¬ (false = true) by decide)] at H;exact H
     clear H
     have H:=H1
     clear H1
     obtain rfl:=Option.some.inj H
     go_enter Tryd.func5,Tryd.ntmps5
     go_wp2_with (first | ((with_reducible refine gate_callee (f:=16) rfl ?_);refine Up.gl (some 6) Tryd.func16 #[] ?_;(with_reducible refine (spec_InsWords.calls k  t178 _ A1.out).mono ?_);rintro e w48 ⟨v179,rfl,ho0,hb⟩;refine ⟨_,rfl,?_⟩;have n0_:=Aside0.mk (Kd.R_lower ho0 (below_size (Up.Bup HB)));have n1_:=Up.BB HB hb;clear HB;have HO180:=n0_;have HB:=n1_;clear n0_ n1_;(try clear hb);(try clear hb2);(try clear hk);(try clear hi);(try clear ho0)) | ((with_reducible refine gate_callee (f:=15) rfl ?_);refine Up.gl (some 7) Tryd.func15 #[] ?_;(with_reducible refine (impl_InsWords.calls (hT_:=?tab1) k  t181 _ A2.out).mono ?_);(case tab1 => exact hT_.below (Up.Bx HB));rintro e w49 ⟨v182,cx182,rfl,hcx182,ho0,hb⟩;refine ⟨_,rfl,?_⟩;have n0_:=Aside0.mk (Kd.R_elder' (Up.Rup HO180) (Kd.R_base ho0) hb);have n1_:=Aside0.mk (Kd.R_lower (Kd.R_new' ho0 (Kd.R_lt (Up.Rup HO180))) (below_size (Up.Bup HB)));have n2_:=Up.BB HB hb;clear HO180 HB;have HO180:=n0_;have HO183:=n1_;have HB:=n2_;clear n0_ n1_ n2_;(try clear hb);(try clear hb2);(try clear hk);(try clear hi);(try clear ho0);obtain ⟨Ao50,co50,eo50⟩:=Kd.R_slice HO183.out;subst eo50;obtain ⟨Ao51,co51,eo51⟩:=Kd.R_slice HO180.out;subst eo51) | ((with_reducible refine gate_callee (f:=19) rfl ?_);refine Up.gl (some 10) Tryd.func19 #[.slice Ao50 t181.length cx182,.slice Ao51 t178.length co51] ?_;(with_reducible refine (laws_eqStringS.calls k _ _ t181 _ _ t178 true _ ?side1 ?side2 ?side3 ?side4 A3.out).mono ?_);(case side1 => repeat (first | exact (Kd.R_reads' HO183.out).2.2 | (with_reducible refine Kd.C_alloc ?_ _) | (with_reducible refine Kd.C_drewN ?_ _) | (with_reducible refine Kd.C_drew ?_)));(case side2 => first | exact hcx182 _ _ _ rfl | (refine Nat.le_trans (Nat.le_of_eq ?_) (hcx182 _ _ _ rfl);first | exact (Kd.R_reads' HO183.out).1 | exact (Kd.R_reads' HO183.out).1.symm));(case side3 => repeat (first | exact (Kd.R_reads' HO180.out).2.2 | (with_reducible refine Kd.C_alloc ?_ _) | (with_reducible refine Kd.C_drewN ?_ _) | (with_reducible refine Kd.C_drew ?_)));(case side4 => exact (Kd.R_reads' HO180.out).2.1);rintro e w' ⟨rfl,⟨nd,rfl⟩⟩;refine ⟨_,rfl,?_⟩) | ((with_reducible refine gate_callee (f:=20) rfl ?_);refine Up.gl (some 14) Tryd.func20 #[.slice Ao50 t181.length cx182,.int .i64 1] ?_;(with_reducible refine (laws_markStringS.calls k (fun k_ => some k_ = (.slice Ao50 t181.length co50 : Value).ownBlock) Ao50 t181.length co50 cx182 (hcx182 _ _ _ rfl) t181 1 t185 t186 w _ ?side1 ?side2 A5.out).mono ?_);(case side1 => repeat (first | (with_reducible first | exact HB.out | apply below_alloc | apply pw_below_drewN | apply below_drew1) | exact HB.out));(case side2 => exact Kd.R_tight rfl HO183.out);rintro e w52 ⟨rfl,hy0,hb,hkp⟩;refine ⟨_,rfl,?_⟩;have n0_:=Aside0.mk (Kd.R_mono (ok':=fun k_ => some k_ ≠ (.slice Ao50 t181.length co50 : Value).ownBlock) (Kd.R_keptB (HO180.out) hkp (fun k_ hk_ hs_ => (hk_.2) hs_)) (fun k_ hk_ => hk_.1.2));have n1_:=Aside0.mk (Kd.R_reok rfl hy0 (fun k_ e_ => HO183.out.1 k_ e_));have n2_:=Aside0.mk (hb);clear HO180 HO183 HB;have HO180:=n0_;have HO183:=n1_;have HB:=n2_;clear n0_ n1_ n2_;(try clear hb);(try clear hkp);(try clear hy0)) | ((with_reducible refine gate_callee (f:=21) rfl ?_);refine goesL_ (some 17) rfl rfl Tryd.func21 (by kernel_rfl) rfl #[.slice Ao50 t186.length cx182,.int .i64 1] rfl (by (try simp only [List.map_toArray,List.map_cons,List.map_nil]);first | done | (rw [show t186.length = t181.length from (Kd.R_reads' HO183.out).1.symm] <;> rfl) | rfl | (simp only [List.length_drop,List.length_take];rfl)) ?_;(with_reducible refine (laws_heldStringS.calls k _ _ t186 1 t187 _ ?side1 ?side2 A6.out).mono ?_);(case side1 => repeat (first | exact (Kd.R_reads' HO183.out).2.2 | (with_reducible refine Kd.C_alloc ?_ _) | (with_reducible refine Kd.C_drewN ?_ _) | (with_reducible refine Kd.C_drew ?_)));(case side2 => rw [show t186.length = t181.length from (Kd.R_reads' HO183.out).1.symm];exact hcx182 _ _ _ rfl);rintro e w53 ⟨rfl,hb⟩;refine ⟨_,rfl,?_⟩;have n0_:=Up.RB HO180 hb;have n1_:=Up.RB HO183 hb;have n2_:=Up.BB HB hb;clear HO180 HO183 HB;have HO180:=n0_;have HO183:=n1_;have HB:=n2_;clear n0_ n1_ n2_;(try clear hb);(try clear hb2);(try clear hk);(try clear hi)) | ((with_reducible refine gate_callee (f:=15) rfl ?_);refine Up.gl (some 23) Tryd.func15 #[] ?_;(with_reducible refine (impl_InsWords.calls (hT_:=?tab1) k  t188 _ A15.out).mono ?_);(case tab1 => exact hT_.below (Up.Bx HB));rintro e w54 ⟨v189,cx189,rfl,hcx189,ho0,hb⟩;refine ⟨_,rfl,?_⟩;have n0_:=Aside0.mk (Kd.R_elder' (Up.Rup HO180) (Kd.R_base ho0) hb);have n1_:=Aside0.mk (Kd.R_elder' (Up.Rup HO183) (Kd.R_base ho0) hb);have n2_:=Aside0.mk (Kd.R_lower (Kd.R_new' (Kd.R_new' ho0 (Kd.R_lt (Up.Rup HO180))) (Kd.R_lt (Up.Rup HO183))) (below_size (Up.Bup HB)));have n3_:=Up.BB HB hb;clear HO180 HO183 HB;have HO180:=n0_;have HO183:=n1_;have HO190:=n2_;have HB:=n3_;clear n0_ n1_ n2_ n3_;(try clear hb);(try clear hb2);(try clear hk);(try clear hi);(try clear ho0);obtain ⟨Ao55,co55,eo55⟩:=Kd.R_slice HO190.out;subst eo55) | ((with_reducible refine gate_callee (f:=19) rfl ?_);refine Up.gl (some 26) Tryd.func19 #[.slice Ao55 t188.length cx189,.slice Ao51 t178.length co51] ?_;(with_reducible refine (laws_eqStringS.calls k _ _ t188 _ _ t178 false _ ?side1 ?side2 ?side3 ?side4 A16.out).mono ?_);(case side1 => repeat (first | exact (Kd.R_reads' HO190.out).2.2 | (with_reducible refine Kd.C_alloc ?_ _) | (with_reducible refine Kd.C_drewN ?_ _) | (with_reducible refine Kd.C_drew ?_)));(case side2 => first | exact hcx189 _ _ _ rfl | (refine Nat.le_trans (Nat.le_of_eq ?_) (hcx189 _ _ _ rfl);first | exact (Kd.R_reads' HO190.out).1 | exact (Kd.R_reads' HO190.out).1.symm));(case side3 => repeat (first | exact (Kd.R_reads' HO180.out).2.2 | (with_reducible refine Kd.C_alloc ?_ _) | (with_reducible refine Kd.C_drewN ?_ _) | (with_reducible refine Kd.C_drew ?_)));(case side4 => exact (Kd.R_reads' HO180.out).2.1);rintro e w' ⟨rfl,⟨nd,rfl⟩⟩;refine ⟨_,rfl,?_⟩))
     go_ret
     exact Up.e1 (Up.Bup HB)
   ·rw [if_neg c14] at H
    have c14b0 : (t187 == t185) = false:=beq_eq_false_iff_ne.mpr c14
    have c14b1 : (t187 != t185) = true:=bne_iff_ne.mpr c14
    obtain rfl:=Option.some.inj H
    go_enter Tryd.func5,Tryd.ntmps5
    go_wp2_with (first | ((with_reducible refine gate_callee (f:=16) rfl ?_);refine Up.gl (some 6) Tryd.func16 #[] ?_;(with_reducible refine (spec_InsWords.calls k  t178 _ A1.out).mono ?_);rintro e w56 ⟨v179,rfl,ho0,hb⟩;refine ⟨_,rfl,?_⟩;have n0_:=Aside0.mk (Kd.R_lower ho0 (below_size (Up.Bup HB)));have n1_:=Up.BB HB hb;clear HB;have HO180:=n0_;have HB:=n1_;clear n0_ n1_;(try clear hb);(try clear hb2);(try clear hk);(try clear hi);(try clear ho0)) | ((with_reducible refine gate_callee (f:=15) rfl ?_);refine Up.gl (some 7) Tryd.func15 #[] ?_;(with_reducible refine (impl_InsWords.calls (hT_:=?tab1) k  t181 _ A2.out).mono ?_);(case tab1 => exact hT_.below (Up.Bx HB));rintro e w57 ⟨v182,cx182,rfl,hcx182,ho0,hb⟩;refine ⟨_,rfl,?_⟩;have n0_:=Aside0.mk (Kd.R_elder' (Up.Rup HO180) (Kd.R_base ho0) hb);have n1_:=Aside0.mk (Kd.R_lower (Kd.R_new' ho0 (Kd.R_lt (Up.Rup HO180))) (below_size (Up.Bup HB)));have n2_:=Up.BB HB hb;clear HO180 HB;have HO180:=n0_;have HO183:=n1_;have HB:=n2_;clear n0_ n1_ n2_;(try clear hb);(try clear hb2);(try clear hk);(try clear hi);(try clear ho0);obtain ⟨Ao58,co58,eo58⟩:=Kd.R_slice HO183.out;subst eo58;obtain ⟨Ao59,co59,eo59⟩:=Kd.R_slice HO180.out;subst eo59) | ((with_reducible refine gate_callee (f:=19) rfl ?_);refine Up.gl (some 10) Tryd.func19 #[.slice Ao58 t181.length cx182,.slice Ao59 t178.length co59] ?_;(with_reducible refine (laws_eqStringS.calls k _ _ t181 _ _ t178 true _ ?side1 ?side2 ?side3 ?side4 A3.out).mono ?_);(case side1 => repeat (first | exact (Kd.R_reads' HO183.out).2.2 | (with_reducible refine Kd.C_alloc ?_ _) | (with_reducible refine Kd.C_drewN ?_ _) | (with_reducible refine Kd.C_drew ?_)));(case side2 => first | exact hcx182 _ _ _ rfl | (refine Nat.le_trans (Nat.le_of_eq ?_) (hcx182 _ _ _ rfl);first | exact (Kd.R_reads' HO183.out).1 | exact (Kd.R_reads' HO183.out).1.symm));(case side3 => repeat (first | exact (Kd.R_reads' HO180.out).2.2 | (with_reducible refine Kd.C_alloc ?_ _) | (with_reducible refine Kd.C_drewN ?_ _) | (with_reducible refine Kd.C_drew ?_)));(case side4 => exact (Kd.R_reads' HO180.out).2.1);rintro e w' ⟨rfl,⟨nd,rfl⟩⟩;refine ⟨_,rfl,?_⟩) | ((with_reducible refine gate_callee (f:=20) rfl ?_);refine Up.gl (some 14) Tryd.func20 #[.slice Ao58 t181.length cx182,.int .i64 1] ?_;(with_reducible refine (laws_markStringS.calls k (fun k_ => some k_ = (.slice Ao58 t181.length co58 : Value).ownBlock) Ao58 t181.length co58 cx182 (hcx182 _ _ _ rfl) t181 1 t185 t186 w _ ?side1 ?side2 A5.out).mono ?_);(case side1 => repeat (first | (with_reducible first | exact HB.out | apply below_alloc | apply pw_below_drewN | apply below_drew1) | exact HB.out));(case side2 => exact Kd.R_tight rfl HO183.out);rintro e w60 ⟨rfl,hy0,hb,hkp⟩;refine ⟨_,rfl,?_⟩;have n0_:=Aside0.mk (Kd.R_mono (ok':=fun k_ => some k_ ≠ (.slice Ao58 t181.length co58 : Value).ownBlock) (Kd.R_keptB (HO180.out) hkp (fun k_ hk_ hs_ => (hk_.2) hs_)) (fun k_ hk_ => hk_.1.2));have n1_:=Aside0.mk (Kd.R_reok rfl hy0 (fun k_ e_ => HO183.out.1 k_ e_));have n2_:=Aside0.mk (hb);clear HO180 HO183 HB;have HO180:=n0_;have HO183:=n1_;have HB:=n2_;clear n0_ n1_ n2_;(try clear hb);(try clear hkp);(try clear hy0)) | ((with_reducible refine gate_callee (f:=21) rfl ?_);refine goesL_ (some 17) rfl rfl Tryd.func21 (by kernel_rfl) rfl #[.slice Ao58 t186.length cx182,.int .i64 1] rfl (by (try simp only [List.map_toArray,List.map_cons,List.map_nil]);first | done | (rw [show t186.length = t181.length from (Kd.R_reads' HO183.out).1.symm] <;> rfl) | rfl | (simp only [List.length_drop,List.length_take];rfl)) ?_;(with_reducible refine (laws_heldStringS.calls k _ _ t186 1 t187 _ ?side1 ?side2 A6.out).mono ?_);(case side1 => repeat (first | exact (Kd.R_reads' HO183.out).2.2 | (with_reducible refine Kd.C_alloc ?_ _) | (with_reducible refine Kd.C_drewN ?_ _) | (with_reducible refine Kd.C_drew ?_)));(case side2 => rw [show t186.length = t181.length from (Kd.R_reads' HO183.out).1.symm];exact hcx182 _ _ _ rfl);rintro e w61 ⟨rfl,hb⟩;refine ⟨_,rfl,?_⟩;have n0_:=Up.RB HO180 hb;have n1_:=Up.RB HO183 hb;have n2_:=Up.BB HB hb;clear HO180 HO183 HB;have HO180:=n0_;have HO183:=n1_;have HB:=n2_;clear n0_ n1_ n2_;(try clear hb);(try clear hb2);(try clear hk);(try clear hi)))
    go_ret
    exact Up.e1 (Up.Bup HB)
 ·replace c4:=Bool.eq_false_iff.mpr c4
  subst c4
  have H1 : (some false) = some r:=by rw [if_neg (show ¬ (false = true) by decide)] at H;exact H
  clear H
  have H:=H1
  clear H1
  obtain rfl:=Option.some.inj H
  go_enter Tryd.func5,Tryd.ntmps5
  go_wp2_with (first | ((with_reducible refine gate_callee (f:=16) rfl ?_);refine Up.gl (some 6) Tryd.func16 #[] ?_;(with_reducible refine (spec_InsWords.calls k  t178 _ A1.out).mono ?_);rintro e w62 ⟨v179,rfl,ho0,hb⟩;refine ⟨_,rfl,?_⟩;have n0_:=Aside0.mk (Kd.R_lower ho0 (below_size (Up.Bup HB)));have n1_:=Up.BB HB hb;clear HB;have HO180:=n0_;have HB:=n1_;clear n0_ n1_;(try clear hb);(try clear hb2);(try clear hk);(try clear hi);(try clear ho0)) | ((with_reducible refine gate_callee (f:=15) rfl ?_);refine Up.gl (some 7) Tryd.func15 #[] ?_;(with_reducible refine (impl_InsWords.calls (hT_:=?tab1) k  t181 _ A2.out).mono ?_);(case tab1 => exact hT_.below (Up.Bx HB));rintro e w63 ⟨v182,cx182,rfl,hcx182,ho0,hb⟩;refine ⟨_,rfl,?_⟩;have n0_:=Aside0.mk (Kd.R_elder' (Up.Rup HO180) (Kd.R_base ho0) hb);have n1_:=Aside0.mk (Kd.R_lower (Kd.R_new' ho0 (Kd.R_lt (Up.Rup HO180))) (below_size (Up.Bup HB)));have n2_:=Up.BB HB hb;clear HO180 HB;have HO180:=n0_;have HO183:=n1_;have HB:=n2_;clear n0_ n1_ n2_;(try clear hb);(try clear hb2);(try clear hk);(try clear hi);(try clear ho0);obtain ⟨Ao64,co64,eo64⟩:=Kd.R_slice HO183.out;subst eo64;obtain ⟨Ao65,co65,eo65⟩:=Kd.R_slice HO180.out;subst eo65) | ((with_reducible refine gate_callee (f:=19) rfl ?_);refine Up.gl (some 10) Tryd.func19 #[.slice Ao64 t181.length cx182,.slice Ao65 t178.length co65] ?_;(with_reducible refine (laws_eqStringS.calls k _ _ t181 _ _ t178 false _ ?side1 ?side2 ?side3 ?side4 A3.out).mono ?_);(case side1 => repeat (first | exact (Kd.R_reads' HO183.out).2.2 | (with_reducible refine Kd.C_alloc ?_ _) | (with_reducible refine Kd.C_drewN ?_ _) | (with_reducible refine Kd.C_drew ?_)));(case side2 => first | exact hcx182 _ _ _ rfl | (refine Nat.le_trans (Nat.le_of_eq ?_) (hcx182 _ _ _ rfl);first | exact (Kd.R_reads' HO183.out).1 | exact (Kd.R_reads' HO183.out).1.symm));(case side3 => repeat (first | exact (Kd.R_reads' HO180.out).2.2 | (with_reducible refine Kd.C_alloc ?_ _) | (with_reducible refine Kd.C_drewN ?_ _) | (with_reducible refine Kd.C_drew ?_)));(case side4 => exact (Kd.R_reads' HO180.out).2.1);rintro e w' ⟨rfl,⟨nd,rfl⟩⟩;refine ⟨_,rfl,?_⟩))
  go_ret
  exact Up.e1 (Up.Bup HB)

/-- THE ONE PURE STATEMENT of laws_FnExactInsWords: yours. -/
def laws_FnExactInsWords.Pure : Prop:=∃ k,laws_FnExactInsWords.f k  = some true
theorem laws_FnExactInsWords.walk (P : laws_FnExactInsWords.Pure)  (w : World) (hT_ : Tab w)  :
  Calls Tryd.prog 5 #[] w fun e w' => e = .returned (.bool true) ∧ Below w.heap.size w w':=by
 obtain ⟨k,h⟩:=P  
 refine (laws_FnExactInsWords.calls (hT_:=hT_) k  true w h).mono ?_
 rintro e w' ⟨rfl,hd⟩
 exact ⟨rfl,hd⟩

end Go.Proofs.YtfkhjnmgaadomaaDoor.OFnExactInsWords
