-- Laid by a program of this session (wip/myprint.py): the kit's print of the functions, contracts of our own among them.
import Derived.Test.YtcdamcfklehedaaOFnExactFuncSeenx0
import Derived.Test.YtcdamcfklehedaaOFnExactFuncSeenx2
namespace Go.Proofs.Ytcdamcfklehedaa.OFnExactFuncSeen
open Go.RowKit Go.Proofs.YtcdamcfklehedaaW.PrintWords Go.Proofs.YtcdamcfklehedaaW.PrintLast Go.Proofs.YtcdamcfklehedaaW.PrintMore
attribute [local go_sem] max2_int min2_int max_two min_two max_three min_three max_four min_four   -- for this text's walks alone
set_option linter.unusedVariables false
set_option linter.unusedSimpArgs false

/-! ### laws_toIntS: function 51 -/
def laws_toIntS.l0 : Nat → List Int → List Int → Int → Option (List Int)
 | 0,_,_,_ => none
 | k + 1,x0,x3,x4 => if x4 < (x0.length : Int) then (if 0 ≤ x4 then (if x4 < (x3.length : Int) then (laws_toIntS.l0 k x0 (x3.set (x4 : Int).toNat (rd x0 x4)) (wrap64 (x4 + 1))) else (none)) else (none)) else (some x3)
def laws_toIntS.f (k : Nat) (l0 : List Int) : Option (List Int):=if 0 ≤ (l0.length : Int) then (if ((l0.length : Int) : Int).toNat ≤ 35184372088832 then (laws_toIntS.l0 k l0 (List.replicate ((l0.length : Int) : Int).toNat 0) 0) else (none)) else (none)
theorem laws_toIntS.mono_l : ∀ k,(∀ y0 y1 y2,LeO (laws_toIntS.l0 k y0 y1 y2) (laws_toIntS.l0 (k + 1) y0 y1 y2))
 | 0 => fun _ _ _ r h => by simp [laws_toIntS.l0] at h
 | k + 1 => by
  have ih0:=laws_toIntS.mono_l k
  ·intro y0 y1 y2
   unfold laws_toIntS.l0
   repeat' first
   | (with_reducible exact ih0 _ _ _)
   | (with_reducible exact LeO.refl _)
   | (with_reducible exact LeO.none _)
   | (with_reducible refine LeO.ite ?_ ?_)
   | (with_reducible refine LeO.bind ?_ (fun _ => ?_))
   | exact ih0 _ _ _
   | exact LeO.none _
   | refine LeO.ite ?_ ?_
   | refine LeO.bind ?_ (fun _ => ?_)
theorem laws_toIntS.mono : ∀ a0 k,LeO (laws_toIntS.f k a0) (laws_toIntS.f (k + 1) a0):=by
 intro a0 k
 have ih0:=laws_toIntS.mono_l k
 unfold laws_toIntS.f
 repeat' first
   | (with_reducible exact ih0 _ _ _)
   | (with_reducible exact LeO.refl _)
   | (with_reducible exact LeO.none _)
   | (with_reducible refine LeO.ite ?_ ?_)
   | (with_reducible refine LeO.bind ?_ (fun _ => ?_))
   | exact ih0 _ _ _
   | exact LeO.none _
   | refine LeO.ite ?_ ?_
   | refine LeO.bind ?_ (fun _ => ?_)
set_option maxHeartbeats 8000000 in
set_option maxRecDepth 100000 in
theorem laws_toIntS.calls (k : Nat) (A0 : Option Addr) (c0 : Nat) (l0 : List Int) (r : List Int) (w : World) (hr0 : Kd.C (Kd.int .i64) w A0 l0.length l0) (hc0 : l0.length ≤ c0) (h : laws_toIntS.f k l0 = some r) :
  Calls Try.prog 51 #[.slice A0 l0.length c0] w fun e w' => ∃ v0_ : Value,e = .returned (v0_) ∧ Kd.R (Kd.int .i64) 3 w' w.heap.size (fun _ => True) v0_ r ∧ Below w.heap.size w w':=by
 have HR0:=Aside0.mk hr0
 have HC0:=Aside0.mk hc0
 clear hr0 hc0
 have HB:=Aside0.mk (Below.refl w.heap.size w)
 have H : (if 0 ≤ (l0.length : Int) then (if ((l0.length : Int) : Int).toNat ≤ 35184372088832 then (laws_toIntS.l0 k l0 (List.replicate ((l0.length : Int) : Int).toNat 0) 0) else (none)) else (none)) = some r:=h
 clear h
 by_cases c2 : 0 ≤ (l0.length : Int)
 ·rw [if_pos c2] at H
  have c2b0:=eq_true c2
  have c2b1 : decide (0 ≤ (l0.length : Int)) = true:=decide_eq_true c2
  clear c2
  by_cases c3 : ((l0.length : Int) : Int).toNat ≤ 35184372088832
  ·rw [if_pos c3] at H
   have c3b0:=eq_true c3
   have c3b1 : decide (((l0.length : Int) : Int).toNat ≤ 35184372088832) = true:=decide_eq_true c3
   clear c3
   obtain ⟨y153,hy153⟩ : ∃ y_ : List Int,y_ = (List.replicate ((l0.length : Int) : Int).toNat 0):=⟨_,rfl⟩
   replace H : (laws_toIntS.l0 k l0 y153 0) = some r:=by first | (rw [hy153];with_reducible exact H) | (have H2_:=(Option.bind_some _ _).symm.trans H;rw [hy153];with_reducible exact H2_) | (have H2_:=(Option.bind_some _ _).symm.trans H;with_reducible exact H2_) | with_reducible exact H | (rw [hy153];exact H) | exact H
   have Ny153:=Aside0.mk hy153
   clear hy153
   have H':=Aside0.mk H
   clear H
   go_enter Try.func51,Try.ntmps51
   go_wp2_with (first | ((with_reducible refine gate_dst (N:=7) rfl ?_);refine Kd.R_make (Kd.int .i64) _ 3 rfl (N:=7) rfl 36 _ _ rfl (l0.length : Int) rfl rfl Try.underlying36 (.int .i64 0) 8 info3 rfl (by decide) (by omega) 0 (ok:=fun _ => True) (okp:=fun _ => True) rfl (fun _ hk => hk) trivial (of_decide_eq_true (by first | (with_reducible assumption) | assumption)) (Nat.le_trans (Nat.mul_le_mul_right _ (of_decide_eq_true (by first | (with_reducible assumption) | assumption) : (l0.length : Int).toNat ≤ 35184372088832)) (by omega)) (Below.refl _ _) (Nat.le_refl _) ?_;intro v154 w4 ho5 hb hg_ hnew_;clear hg_ hnew_;(first | rw [← Ny153.out] at ho5 | (simp only [Int.reduceToNat] at ho5;rw [← Ny153.out] at ho5));have n0_:=Aside0.mk (Kd.R_lower ho5 (below_size (Up.Bup HB)));have n1_:=Up.BB HB hb;clear HB;have HO155:=n0_;have HB:=n1_;clear n0_ n1_;clear hb ho5))
   go_loopg [4] k (fun kq v4 w' => ∃ (x3_1 : List Int) (x4_1 : Int),v4 = .int .i64 x4_1 ∧ Aside0 (laws_toIntS.l0 kq l0 x3_1 x4_1 = some r) ∧ Aside0 (kq ≤ k) ∧ Aside0 (Kd.R (Kd.int .i64) 3 w' w.heap.size (fun _ => True) v154 x3_1) ∧ Aside0 (Below w.heap.size w w'))
   case atStart => exact ⟨(y153),(0),(by first | rfl | (simp;done) | (simp [*];done)),H',⟨Nat.le_refl _⟩,⟨Up.Rup HO155⟩,⟨Up.Bup HB⟩⟩
   case round =>
    clear H'
    try clear c2
    try clear c2b0
    try clear c2b1
    try clear p2
    try clear c3
    try clear c3b0
    try clear c3b1
    try clear c5
    obtain ⟨x3_1,x4_1,rfl,HA,HK1,HO_3,HB⟩:=hrel
    cases gk with
    | zero => exact absurd HA.out (by simp [laws_toIntS.l0])
    | succ k1 =>
     have H:=HA.out
     clear HA
     simp only [laws_toIntS.l0] at H
     by_cases c6 : x4_1 < (l0.length : Int)
     ·rw [if_pos c6] at H
      have c6b0 : decide (x4_1 < (l0.length : Int)) = true:=decide_eq_true c6
      clear c6
      by_cases c7 : 0 ≤ x4_1
      ·rw [if_pos c7] at H
       have c7b0 : decide (0 ≤ x4_1) = true:=decide_eq_true c7
       clear c7
       by_cases c8 : x4_1 < (x3_1.length : Int)
       ·rw [if_pos c8] at H
        have c8b0 : decide (x4_1 < (x3_1.length : Int)) = true:=decide_eq_true c8
        clear c8
        obtain ⟨y157,hy157⟩ : ∃ y_ : List Int,y_ = (x3_1.set (x4_1 : Int).toNat (rd l0 x4_1)):=⟨_,rfl⟩
        replace H : (laws_toIntS.l0 k1 l0 y157 (wrap64 (x4_1 + 1))) = some r:=by first | (rw [hy157];with_reducible exact H) | (have H2_:=(Option.bind_some _ _).symm.trans H;rw [hy157];with_reducible exact H2_) | (have H2_:=(Option.bind_some _ _).symm.trans H;with_reducible exact H2_) | with_reducible exact H | (rw [hy157];exact H) | exact H
        have Ny157:=Aside0.mk hy157
        clear hy157
        have H':=Aside0.mk H
        clear H
        have p156 : 0 ≤ (x4_1 : Int):=of_decide_eq_true (by first | (with_reducible assumption) | assumption)
        have q156 : x4_1 < (l0.length : Int):=of_decide_eq_true (by first | (with_reducible assumption) | assumption)
        obtain ⟨ad156,e156,hx156_0⟩:=Kd.at_int HR0.out x4_1 p156 q156
        cases e156
        replace hx156_0:=(HB.out.cell (World.block_lt_of_cell? w _ hx156_0)).trans hx156_0
        replace p156:=eq_true p156
        replace q156:=eq_true q156
        have p9 : 0 ≤ (x4_1 : Int):=of_decide_eq_true (by first | (with_reducible assumption) | assumption)
        have q9 : (x4_1 : Int) < ((x3_1.length : Int) : Int):=of_decide_eq_true (by first | (with_reducible assumption) | assumption)
        obtain ⟨go9,co9,eo9,gb9,gl9,cl9,HG9⟩:=Kd.R_form HO_3.out (by omega)
        (first | cases eo9 | (injection eo9 with ea_ en_ ec_;(first | subst ea_ | (injection ea_ with ea_;subst ea_));subst ec_;clear en_))
        have GB9:=Aside0.mk gb9
        have GG9:=Aside0.mk HG9
        clear gb9 gl9 HG9
        obtain ⟨hx9_0,hf9_0⟩:=Kd.R_celln 0 HO_3.out (x4_1 : Int) p9 q9
        replace p9:=eq_true p9
        replace q9:=eq_true q9
        have HP10:=Kd.R_putg HO_3.out (x4_1 : Int) (rd l0 x4_1)
        go_wp2_with (first | ((with_reducible refine gate_store (t:=3) (p:=20) rfl ?_);refine store_event (t:=3) (p:=20) (v:=?vo_w11) (w1:=(wr.setCell ⟨go9,(x4_1 : Int).toNat,none⟩ (.int .i64 (rd l0 x4_1)))) ?hg ?ho ?hn ?hr ?_;(case ho => rfl);(case hg => rfl);(case hn => rfl);(case hr => first | (go_simp;done) | (go_simp;rfl));intro w11 hw;have hg : wr.grownBy w11 (some go9):=(by rw [hw];exact HP10.2);have hp_ : Kd.R (Kd.int .i64) 3 w11 w.heap.size (fun _ => True) (.slice (some ⟨go9,0,none⟩) x3_1.length co9) y157:=(by rw [hw,Ny157.out];exact HP10.1);clear HP10;have n0_:=Aside0.mk (hp_);have n1_:=Aside0.mk ((by rw [hw];exact below_set (HB.out) GB9.out : Below w.heap.size w w11));clear HO_3;clear HB;have HO_3:=n0_;have HB:=n1_;clear n0_ n1_;clear hg hw hp_))
        go_roundg k1
        case measure => have:=HK1.out;omega
        case rel => exact ⟨(y157),(wrap64 (x4_1 + 1)),(by first | rfl | (simp;done) | (simp [*];done)),H',⟨by have:=HK1.out;omega⟩,⟨Up.Rup HO_3⟩,⟨Up.Bup HB⟩⟩
       ·rw [if_neg c8] at H
        exact absurd H (by simp)
      ·rw [if_neg c7] at H
       exact absurd H (by simp)
     ·rw [if_neg c6] at H
      have c6b0 : decide (x4_1 < (l0.length : Int)) = false:=decide_eq_false c6
      clear c6
      obtain rfl:=Option.some.inj H
      go_wp2
      go_ret
      exact ⟨_,by first | rfl | (simp [errW_none,errW_some] <;> rfl) | (simp [*,errW_none,errW_some] <;> rfl),Up.Rup HO_3,Up.Bup HB⟩
  ·rw [if_neg c3] at H
   exact absurd H (by simp)
 ·rw [if_neg c2] at H
  exact absurd H (by simp)

/-! ### laws_toIns: function 72 -/
def laws_toIns.f (a0_0 : ByteArray) (a0_1 : Int) (a0_2 : Int) : Option (ByteArray × Int × Int):=some (a0_0,a0_1,a0_2)
set_option maxHeartbeats 8000000 in
set_option maxRecDepth 100000 in
theorem laws_toIns.calls (a0_0 : ByteArray) (a0_1 : Int) (a0_2 : Int) (r1 : ByteArray) (r2 : Int) (r3 : Int) (w : World) (h : laws_toIns.f a0_0 a0_1 a0_2 = some (r1,r2,r3)) :
  Calls Try.prog 72 #[.agg #[.string a0_0,.int .i64 a0_1,.int .i64 a0_2]] w fun e w' => e = .returned (.agg #[.string r1,.int .i64 r2,.int .i64 r3]) ∧ Below w.heap.size w w':=by
 have hu98:=Try.underlying98
 have hu83:=Try.underlying83
 have HB:=Aside0.mk (Below.refl w.heap.size w)
 have H : (some (a0_0,a0_1,a0_2)) = some (r1,r2,r3):=h
 clear h
 simp only [Option.some.injEq,Prod.mk.injEq] at H
 obtain ⟨rfl,rfl,rfl⟩:=H
 go_enter Try.func72,Try.ntmps72
 go_wp2_with (first | ((with_reducible refine gate_dst (N:=1) rfl ?_);refine box_event ?hg (N:=1) ?hd (cs:=#[.string a0_0,.int .i64 a0_1,.int .i64 a0_2]) (t:=98) ?hr ?_;(case hd => rfl);(case hg => rfl);(case hr => first | (go_simp;done) | (go_simp;rfl));intro gb158 hg w2 hbox hb;have n0_:=Up.BB HB hb;have n1_:=Aside0.mk (hbox);have n2_:=Aside0.mk ((by rw [hg];exact (below_size (Up.Bup HB)) : w.heap.size ≤ gb158));have n3_:=Aside0.mk ((by rw [hg];exact (below_size (Up.Bup HB)) : w.heap.size ≤ gb158));clear HB;have HB:=n0_;have BK158:=n1_;have GW158:=n2_;have GE158:=n3_;clear n0_ n1_ n2_ n3_;clear hb hbox hg) | ((with_reducible refine gate_dst (N:=2) rfl ?_);refine box_event ?hg (N:=2) ?hd (cs:=#[.string (⟨#[]⟩ : ByteArray),.int .i64 0,.int .i64 0]) (t:=83) ?hr ?_;(case hd => rfl);(case hg => rfl);(case hr => first | (go_simp;done) | (go_simp;rfl));intro gb159 hg w3 hbox hb;have n0_:=Up.KB BK158 hb;have n1_:=Aside0.mk (below_step (by repeat (first | (with_reducible first | exact HB.out | apply below_alloc | apply pw_below_drewN | apply below_drew1 | refine below_set ?_ GE158.out) | exact HB.out)) hb);have n2_:=Aside0.mk (hbox);have n3_:=Aside0.mk ((by rw [hg];exact (below_size (by repeat (first | (with_reducible first | exact HB.out | apply below_alloc | apply pw_below_drewN | apply below_drew1 | refine below_set ?_ GE158.out) | exact HB.out))) : w.heap.size ≤ gb159));have n4_:=Aside0.mk ((by rw [hg];exact (below_size (by repeat (first | (with_reducible first | exact HB.out | apply below_alloc | apply pw_below_drewN | apply below_drew1 | refine below_set ?_ GE158.out) | exact HB.out))) : w.heap.size ≤ gb159));have n5_:=Aside0.mk ((by rw [hg];exact Nat.ne_of_lt (blk_lt (g:=gb158) (o:=.cells #[.string a0_0,.int .i64 a0_1,.int .i64 a0_2] 98 (0,0)) (Up.Kup BK158)) : gb158 ≠ gb159));have n6_:=Aside0.mk ((by rw [hg];exact Nat.ne_of_gt (blk_lt (g:=gb158) (o:=.cells #[.string a0_0,.int .i64 a0_1,.int .i64 a0_2] 98 (0,0)) (Up.Kup BK158)) : gb159 ≠ gb158));clear BK158;clear HB;have BK158:=n0_;have HB:=n1_;have BK159:=n2_;have GW159:=n3_;have GE159:=n4_;have NB158_159:=n5_;have NB159_158:=n6_;clear n0_ n1_ n2_ n3_ n4_ n5_ n6_;clear hb hbox hg) | ((with_reducible refine gate_dst (N:=3) rfl ?_);refine box_event ?hg (N:=3) ?hd (cs:=#[.string (⟨#[]⟩ : ByteArray),.int .i64 0,.int .i64 0]) (t:=83) ?hr ?_;(case hd => rfl);(case hg => rfl);(case hr => first | (go_simp;done) | (go_simp;rfl));intro gb160 hg w4 hbox hb;have n0_:=Up.KB BK158 hb;have n1_:=Up.KB BK159 hb;have n2_:=Aside0.mk (below_step (by repeat (first | (with_reducible first | exact HB.out | apply below_alloc | apply pw_below_drewN | apply below_drew1 | refine below_set ?_ GE158.out | refine below_set ?_ GE159.out) | exact HB.out)) hb);have n3_:=Aside0.mk (hbox);have n4_:=Aside0.mk ((by rw [hg];exact (below_size (by repeat (first | (with_reducible first | exact HB.out | apply below_alloc | apply pw_below_drewN | apply below_drew1 | refine below_set ?_ GE158.out | refine below_set ?_ GE159.out) | exact HB.out))) : w.heap.size ≤ gb160));have n5_:=Aside0.mk ((by rw [hg];exact (below_size (by repeat (first | (with_reducible first | exact HB.out | apply below_alloc | apply pw_below_drewN | apply below_drew1 | refine below_set ?_ GE158.out | refine below_set ?_ GE159.out) | exact HB.out))) : w.heap.size ≤ gb160));have n6_:=Aside0.mk ((by rw [hg];exact Nat.ne_of_lt (blk_lt (g:=gb158) (o:=.cells #[.string a0_0,.int .i64 a0_1,.int .i64 a0_2] 98 (0,0)) (Up.Kup BK158)) : gb158 ≠ gb160));have n7_:=Aside0.mk ((by rw [hg];exact Nat.ne_of_gt (blk_lt (g:=gb158) (o:=.cells #[.string a0_0,.int .i64 a0_1,.int .i64 a0_2] 98 (0,0)) (Up.Kup BK158)) : gb160 ≠ gb158));have n8_:=Aside0.mk ((by rw [hg];exact Nat.ne_of_lt (blk_lt (g:=gb159) (o:=.cells #[.string (⟨#[]⟩ : ByteArray),.int .i64 0,.int .i64 0] 83 (0,0)) (Up.Kup BK159)) : gb159 ≠ gb160));have n9_:=Aside0.mk ((by rw [hg];exact Nat.ne_of_gt (blk_lt (g:=gb159) (o:=.cells #[.string (⟨#[]⟩ : ByteArray),.int .i64 0,.int .i64 0] 83 (0,0)) (Up.Kup BK159)) : gb160 ≠ gb159));clear BK158;clear BK159;clear HB;have BK158:=n0_;have BK159:=n1_;have HB:=n2_;have BK160:=n3_;have GW160:=n4_;have GE160:=n5_;have NB158_160:=n6_;have NB160_158:=n7_;have NB159_160:=n8_;have NB160_159:=n9_;clear n0_ n1_ n2_ n3_ n4_ n5_ n6_ n7_ n8_ n9_;clear hb hbox hg;have hnb5:=NB158_159.out;have hnc5:=NB159_158.out;have hnb6:=NB158_160.out;have hnc6:=NB160_158.out;have hcz7_0 : w4.cell? ⟨gb158,0,none⟩ = some (.string a0_0):=(blk_cell BK158.out 0).trans rfl;have hcz7_1 : w4.cell? ⟨gb158,1,none⟩ = some (.int .i64 a0_1):=(blk_cell BK158.out 1).trans rfl;have hcz7_2 : w4.cell? ⟨gb158,2,none⟩ = some (.int .i64 a0_2):=(blk_cell BK158.out 2).trans rfl;have hfz7_0:=blk_frozen BK158.out 0;have hfz7_1:=blk_frozen BK158.out 1;have hfz7_2:=blk_frozen BK158.out 2;have hnb8:=NB160_159.out;have hnc8:=NB159_160.out;have hcz9_0 : w4.cell? ⟨gb160,0,none⟩ = some (.string (⟨#[]⟩ : ByteArray)):=(blk_cell BK160.out 0).trans rfl;have hcz9_1 : w4.cell? ⟨gb160,1,none⟩ = some (.int .i64 0):=(blk_cell BK160.out 1).trans rfl;have hcz9_2 : w4.cell? ⟨gb160,2,none⟩ = some (.int .i64 0):=(blk_cell BK160.out 2).trans rfl;have hfz9_0:=blk_frozen BK160.out 0;have hfz9_1:=blk_frozen BK160.out 1;have hfz9_2:=blk_frozen BK160.out 2;have hcz10_0 : w4.cell? ⟨gb159,0,none⟩ = some (.string (⟨#[]⟩ : ByteArray)):=(blk_cell BK159.out 0).trans rfl;have hcz10_1 : w4.cell? ⟨gb159,1,none⟩ = some (.int .i64 0):=(blk_cell BK159.out 1).trans rfl;have hcz10_2 : w4.cell? ⟨gb159,2,none⟩ = some (.int .i64 0):=(blk_cell BK159.out 2).trans rfl;have hfz10_0:=blk_frozen BK159.out 0;have hfz10_1:=blk_frozen BK159.out 1;have hfz10_2:=blk_frozen BK159.out 2))
 refine bodyPost_ret (results_cell_row rfl _ _ gb159 83 #[.string a0_0,.int .i64 a0_1,.int .i64 a0_2] (0,0) _ rfl (by (with_reducible repeat (first | refine blk_drewN ?_ _ | refine blk_drew ?_ | refine blk_alloc ?_ _));refine blk_put (cs:=#[.string a0_0,.int .i64 a0_1,.int .i64 0]) ?_ 2 _ rfl;(with_reducible repeat (first | refine blk_drewN ?_ _ | refine blk_drew ?_ | refine blk_alloc ?_ _));refine blk_put (cs:=#[.string a0_0,.int .i64 0,.int .i64 0]) ?_ 1 _ rfl;(with_reducible repeat (first | refine blk_drewN ?_ _ | refine blk_drew ?_ | refine blk_alloc ?_ _));refine blk_put (cs:=#[.string (⟨#[]⟩ : ByteArray),.int .i64 0,.int .i64 0]) ?_ 0 _ rfl;(with_reducible repeat (first | refine blk_drewN ?_ _ | refine blk_drew ?_ | refine blk_alloc ?_ _));refine blk_far ?_ NB159_160.out _;(with_reducible repeat (first | refine blk_drewN ?_ _ | refine blk_drew ?_ | refine blk_alloc ?_ _));refine blk_far ?_ NB159_160.out _;(with_reducible repeat (first | refine blk_drewN ?_ _ | refine blk_drew ?_ | refine blk_alloc ?_ _));refine blk_far ?_ NB159_160.out _;(with_reducible repeat (first | refine blk_drewN ?_ _ | refine blk_drew ?_ | refine blk_alloc ?_ _));exact BK159.out) Try.underlying83 rfl (by kernel_rfl)) rfl ?_
 exact ⟨by first | rfl | (simp [errW_none,errW_some] <;> rfl) | (simp [*,errW_none,errW_some] <;> rfl),by repeat (first | (with_reducible first | exact HB.out | apply below_alloc | apply pw_below_drewN | apply below_drew1 | refine below_set ?_ GE158.out | refine below_set ?_ GE159.out | refine below_set ?_ GE160.out) | exact HB.out)⟩

/-! ### laws_toInsS: function 70 -/
def laws_toInsS.l0 : Nat → List (S98) → List (S83) → Int → Option ((List (S83)))
 | 0,_,_,_ => none
 | k + 1,x0,x3,x4 => if x4 < (x0.length : Int) then (if 0 ≤ x4 then ((laws_toIns.f ((rd_T98 x0 x4).f0) ((rd_T98 x0 x4).f1) ((rd_T98 x0 x4).f2)).bind fun bt165 => (if x4 < (x3.length : Int) then (laws_toInsS.l0 k x0 (x3.set (x4 : Int).toNat (⟨bt165.1,bt165.2.1,bt165.2.2⟩ : S83)) (wrap64 (x4 + 1))) else (none))) else (none)) else (some x3)
def laws_toInsS.f (k : Nat) (l0 : List (S98)) : Option ((List (S83))):=if 0 ≤ (l0.length : Int) then (if ((l0.length : Int) : Int).toNat ≤ 8796093022208 then (laws_toInsS.l0 k l0 (List.replicate ((l0.length : Int) : Int).toNat z83) 0) else (none)) else (none)
theorem laws_toInsS.mono_l : ∀ k,(∀ y0 y1 y2,LeO (laws_toInsS.l0 k y0 y1 y2) (laws_toInsS.l0 (k + 1) y0 y1 y2))
 | 0 => fun _ _ _ r h => by simp [laws_toInsS.l0] at h
 | k + 1 => by
  have ih0:=laws_toInsS.mono_l k
  ·intro y0 y1 y2
   unfold laws_toInsS.l0
   repeat' first
   | (with_reducible exact ih0 _ _ _)
   | (with_reducible exact LeO.refl _)
   | (with_reducible exact LeO.none _)
   | (with_reducible refine LeO.ite ?_ ?_)
   | (with_reducible refine LeO.bind ?_ (fun _ => ?_))
   | exact ih0 _ _ _
   | exact LeO.none _
   | refine LeO.ite ?_ ?_
   | refine LeO.bind ?_ (fun _ => ?_)
theorem laws_toInsS.mono : ∀ a0 k,LeO (laws_toInsS.f k a0) (laws_toInsS.f (k + 1) a0):=by
 intro a0 k
 have ih0:=laws_toInsS.mono_l k
 unfold laws_toInsS.f
 repeat' first
   | (with_reducible exact ih0 _ _ _)
   | (with_reducible exact LeO.refl _)
   | (with_reducible exact LeO.none _)
   | (with_reducible refine LeO.ite ?_ ?_)
   | (with_reducible refine LeO.bind ?_ (fun _ => ?_))
   | exact ih0 _ _ _
   | exact LeO.none _
   | refine LeO.ite ?_ ?_
   | refine LeO.bind ?_ (fun _ => ?_)
set_option maxHeartbeats 8000000 in
set_option maxRecDepth 100000 in
theorem laws_toInsS.calls (k : Nat) (A0 : Option Addr) (c0 : Nat) (l0 : List (S98)) (r : List (S83)) (w : World) (hr0 : Kd.C k98 w A0 l0.length l0) (hc0 : l0.length ≤ c0) (h : laws_toInsS.f k l0 = some r) :
  Calls Try.prog 70 #[.slice A0 l0.length c0] w fun e w' => ∃ v0_ : Value,e = .returned (v0_) ∧ Kd.R k83 83 w' w.heap.size (fun _ => True) v0_ r ∧ Below w.heap.size w w':=by
 have hu98:=Try.underlying98
 have hu83:=Try.underlying83
 have HR0:=Aside0.mk hr0
 have HC0:=Aside0.mk hc0
 clear hr0 hc0
 have HB:=Aside0.mk (Below.refl w.heap.size w)
 have H : (if 0 ≤ (l0.length : Int) then (if ((l0.length : Int) : Int).toNat ≤ 8796093022208 then (laws_toInsS.l0 k l0 (List.replicate ((l0.length : Int) : Int).toNat z83) 0) else (none)) else (none)) = some r:=h
 clear h
 by_cases c2 : 0 ≤ (l0.length : Int)
 ·rw [if_pos c2] at H
  have c2b0:=eq_true c2
  have c2b1 : decide (0 ≤ (l0.length : Int)) = true:=decide_eq_true c2
  clear c2
  by_cases c3 : ((l0.length : Int) : Int).toNat ≤ 8796093022208
  ·rw [if_pos c3] at H
   have c3b0:=eq_true c3
   have c3b1 : decide (((l0.length : Int) : Int).toNat ≤ 8796093022208) = true:=decide_eq_true c3
   clear c3
   obtain ⟨y161,hy161⟩ : ∃ y_ : List (S83),y_ = (List.replicate ((l0.length : Int) : Int).toNat z83):=⟨_,rfl⟩
   replace H : (laws_toInsS.l0 k l0 y161 0) = some r:=by first | (rw [hy161];with_reducible exact H) | (have H2_:=(Option.bind_some _ _).symm.trans H;rw [hy161];with_reducible exact H2_) | (have H2_:=(Option.bind_some _ _).symm.trans H;with_reducible exact H2_) | with_reducible exact H | (rw [hy161];exact H) | exact H
   have Ny161:=Aside0.mk hy161
   clear hy161
   have H':=Aside0.mk H
   clear H
   go_enter Try.func70,Try.ntmps70
   go_wp2_with (first | ((with_reducible refine gate_dst (N:=7) rfl ?_);refine Kd.R_make k83 _ 83 rfl (N:=7) rfl 37 _ _ rfl (l0.length : Int) rfl rfl Try.underlying37 (.agg #[(.string ⟨#[]⟩),(.int .i64 0),(.int .i64 0)]) 32 info83 rfl (by decide) (by omega) z83 (ok:=fun _ => True) (okp:=fun _ => True) (k83_mkM _ _ _ z83 ) (fun _ hk => hk) trivial (of_decide_eq_true (by first | (with_reducible assumption) | assumption)) (Nat.le_trans (Nat.mul_le_mul_right _ (of_decide_eq_true (by first | (with_reducible assumption) | assumption) : (l0.length : Int).toNat ≤ 8796093022208)) (by omega)) (Below.refl _ _) (Nat.le_refl _) ?_;intro v162 w4 ho5 hb hg_ hnew_;clear hg_ hnew_;(first | rw [← Ny161.out] at ho5 | (simp only [Int.reduceToNat] at ho5;rw [← Ny161.out] at ho5));have n0_:=Aside0.mk (Kd.R_lower ho5 (below_size (Up.Bup HB)));have n1_:=Up.BB HB hb;clear HB;have HO163:=n0_;have HB:=n1_;clear n0_ n1_;clear hb ho5))
   go_loopg [4] k (fun kq v4 w' => ∃ (x3_1 : List (S83)) (x4_1 : Int),v4 = .int .i64 x4_1 ∧ Aside0 (laws_toInsS.l0 kq l0 x3_1 x4_1 = some r) ∧ Aside0 (kq ≤ k) ∧ Aside0 (Kd.R k83 83 w' w.heap.size (fun _ => True) v162 x3_1) ∧ Aside0 (Below w.heap.size w w'))
   case atStart => exact ⟨(y161),(0),(by first | rfl | (simp;done) | (simp [*];done)),H',⟨Nat.le_refl _⟩,⟨Up.Rup HO163⟩,⟨Up.Bup HB⟩⟩
   case round =>
    clear H'
    try clear c2
    try clear c2b0
    try clear c2b1
    try clear p2
    try clear c3
    try clear c3b0
    try clear c3b1
    obtain ⟨x3_1,x4_1,rfl,HA,HK1,HO_3,HB⟩:=hrel
    cases gk with
    | zero => exact absurd HA.out (by simp [laws_toInsS.l0])
    | succ k1 =>
     have H:=HA.out
     clear HA
     simp only [laws_toInsS.l0] at H
     by_cases c6 : x4_1 < (l0.length : Int)
     ·rw [if_pos c6] at H
      have c6b0 : decide (x4_1 < (l0.length : Int)) = true:=decide_eq_true c6
      clear c6
      by_cases c7 : 0 ≤ x4_1
      ·rw [if_pos c7] at H
       have c7b0 : decide (0 ≤ x4_1) = true:=decide_eq_true c7
       clear c7
       replace H:=Option.bind_eq_some_iff.mp H
       obtain ⟨⟨t165,t166,t167⟩,A80,H⟩:=H
       replace H : (if x4_1 < (x3_1.length : Int) then (laws_toInsS.l0 k1 l0 (x3_1.set (x4_1 : Int).toNat (⟨t165,t166,t167⟩ : S83)) (wrap64 (x4_1 + 1))) else (none)) = some r:=H
       have A8:=Aside0.mk A80
       clear A80
       by_cases c9 : x4_1 < (x3_1.length : Int)
       ·rw [if_pos c9] at H
        have c9b0 : decide (x4_1 < (x3_1.length : Int)) = true:=decide_eq_true c9
        clear c9
        obtain ⟨y168,hy168⟩ : ∃ y_ : List (S83),y_ = (x3_1.set (x4_1 : Int).toNat (⟨t165,t166,t167⟩ : S83)):=⟨_,rfl⟩
        replace H : (laws_toInsS.l0 k1 l0 y168 (wrap64 (x4_1 + 1))) = some r:=by first | (rw [hy168];with_reducible exact H) | (have H2_:=(Option.bind_some _ _).symm.trans H;rw [hy168];with_reducible exact H2_) | (have H2_:=(Option.bind_some _ _).symm.trans H;with_reducible exact H2_) | with_reducible exact H | (rw [hy168];exact H) | exact H
        have Ny168:=Aside0.mk hy168
        clear hy168
        have H':=Aside0.mk H
        clear H
        have p164 : 0 ≤ (x4_1 : Int):=of_decide_eq_true (by first | (with_reducible assumption) | assumption)
        have q164 : x4_1 < (l0.length : Int):=of_decide_eq_true (by first | (with_reducible assumption) | assumption)
        obtain ⟨ad164,e164,hx164_0,hx164_1,hx164_2⟩:=at_T98 HR0.out x4_1 p164 q164
        cases e164
        replace hx164_0:=(HB.out.cell (World.block_lt_of_cell? w _ hx164_0)).trans hx164_0
        replace hx164_1:=(HB.out.cell (World.block_lt_of_cell? w _ hx164_1)).trans hx164_1
        replace hx164_2:=(HB.out.cell (World.block_lt_of_cell? w _ hx164_2)).trans hx164_2
        replace p164:=eq_true p164
        replace q164:=eq_true q164
        go_wp2_with (first | ((with_reducible refine gate_callee (f:=72) rfl ?_);refine goesL_ (some 20) rfl rfl Try.func72 (by kernel_rfl) rfl #[.agg #[.string ((rd_T98 l0 x4_1).f0),.int .i64 ((rd_T98 l0 x4_1).f1),.int .i64 ((rd_T98 l0 x4_1).f2)]] rfl (by (try simp only [List.map_toArray,List.map_cons,List.map_nil]);first | done | rfl | (simp only [List.length_drop,List.length_take];rfl)) ?_;(with_reducible refine (laws_toIns.calls ((rd_T98 l0 x4_1).f0) ((rd_T98 l0 x4_1).f1) ((rd_T98 l0 x4_1).f2) t165 t166 t167 _ A8.out).mono ?_);rintro e w11 ⟨rfl,hb⟩;refine ⟨_,rfl,?_⟩;have n0_:=Up.RB HO_3 hb;have n1_:=Up.BB HB hb;clear HO_3;clear HB;have HO_3:=n0_;have HB:=n1_;clear n0_ n1_;(try clear hb);(try clear hb2);(try clear hk);(try clear hi);have p10 : 0 ≤ (x4_1 : Int):=of_decide_eq_true (by first | (with_reducible assumption) | assumption);have q10 : (x4_1 : Int) < ((x3_1.length : Int) : Int):=of_decide_eq_true (by first | (with_reducible assumption) | assumption);obtain ⟨go10,co10,eo10,gb10,gl10,cl10,HG10⟩:=Kd.R_form HO_3.out (by omega);(first | cases eo10 | (injection eo10 with ea_ en_ ec_;(first | subst ea_ | (injection ea_ with ea_;subst ea_));subst ec_;clear en_));have GB10:=Aside0.mk gb10;have GG10:=Aside0.mk HG10;clear gb10 gl10 HG10;obtain ⟨ce10,hcl10,hM10,hcc10,hfr10⟩:=Kd.R_elem HO_3.out z83 (x4_1 : Int) p10 q10;obtain rfl:=k83_openM hM10;have hx10_0 : w11.cell? ⟨go10,(x4_1 : Int).toNat * 3,none⟩ = some (.string ((rd_T83 x3_1 x4_1).f0)):=hcc10 0 _ rfl;have hx10_1 : w11.cell? ⟨go10,(x4_1 : Int).toNat * 3 + 1,none⟩ = some (.int .i64 ((rd_T83 x3_1 x4_1).f1)):=hcc10 1 _ rfl;have hx10_2 : w11.cell? ⟨go10,(x4_1 : Int).toNat * 3 + 2,none⟩ = some (.int .i64 ((rd_T83 x3_1 x4_1).f2)):=hcc10 2 _ rfl;have hf10_0 : w11.frozen? ⟨go10,(x4_1 : Int).toNat * 3,none⟩ = false:=hfr10 0;have hf10_1 : w11.frozen? ⟨go10,(x4_1 : Int).toNat * 3 + 1,none⟩ = false:=hfr10 1;have hf10_2 : w11.frozen? ⟨go10,(x4_1 : Int).toNat * 3 + 2,none⟩ = false:=hfr10 2;clear hcl10 hcc10 hfr10 hM10;replace p10:=eq_true p10;replace q10:=eq_true q10;have HX12:=Aside0.mk (show Kd.R k83 83 w11 w.heap.size (fun _ => True) (.slice (some ⟨go10,0,none⟩) x3_1.length co10) x3_1 from (Up.Rup HO_3));obtain ⟨ce12,hcl12,hM12,hcc12,hfr12⟩:=Kd.R_elem HX12.out z83 (x4_1 : Int) (of_decide_eq_true (by first | (with_reducible assumption) | assumption)) (by have h_ : (x4_1 : Int) < ((x3_1.length : Int) : Int):=of_decide_eq_true (by first | (with_reducible assumption) | assumption);first | exact h_ | (have e_:=(Kd.R_reads' HO_3.out).1;omega) | simpa using h_);obtain rfl:=k83_openM hM12;have HP12:=Kd.R_seg HX12.out (x4_1 : Int) (of_decide_eq_true (by first | (with_reducible assumption) | assumption)) (by have h_ : (x4_1 : Int) < ((x3_1.length : Int) : Int):=of_decide_eq_true (by first | (with_reducible assumption) | assumption);first | exact h_ | (have e_:=(Kd.R_reads' HO_3.out).1;omega) | simpa using h_) (seg:=[.string t165,.int .i64 t166,.int .i64 t167]) (j:=0) hcl12 hcc12 (show 3 ≤ 3 from by decide) (x':=(⟨t165,t166,t167⟩ : S83)) (k83_mkM _ _ _ (⟨t165,t166,t167⟩ : S83) ) (fun _ hk => hk);have hx12_0:=hcc12 0 _ rfl;(try simp only [show (k83).sz = 3 from rfl,Nat.mul_one,Nat.add_zero] at hx12_0);have hf12_0:=hfr12 0;(try simp only [show (k83).sz = 3 from rfl,Nat.mul_one,Nat.add_zero] at hf12_0);have hx12_1:=hcc12 1 _ rfl;(try simp only [show (k83).sz = 3 from rfl,Nat.mul_one,Nat.add_zero] at hx12_1);have hf12_1:=hfr12 1;(try simp only [show (k83).sz = 3 from rfl,Nat.mul_one,Nat.add_zero] at hf12_1);have hx12_2:=hcc12 2 _ rfl;(try simp only [show (k83).sz = 3 from rfl,Nat.mul_one,Nat.add_zero] at hx12_2);have hf12_2:=hfr12 2;(try simp only [show (k83).sz = 3 from rfl,Nat.mul_one,Nat.add_zero] at hf12_2);clear hcl12 hcc12 hfr12 hM12) | ((with_reducible refine gate_store (t:=83) (p:=21) rfl ?_);refine store_event (t:=83) (p:=21) (v:=?vo_w13) (w1:=(((w11.setCell ⟨go10,(x4_1 : Int).toNat * 3,none⟩ (.string t165)).setCell ⟨go10,(x4_1 : Int).toNat * 3 + 1,none⟩ (.int .i64 t166)).setCell ⟨go10,(x4_1 : Int).toNat * 3 + 2,none⟩ (.int .i64 t167))) ?hg ?ho ?hn ?hr ?_;(case ho => rfl);(case hg => rfl);(case hn => rfl);(case hr => first | (go_simp;done) | (go_simp;rfl));intro w13 hw;have hg : w11.grownBy w13 (some go10):=(by rw [hw];exact HP12.2);have hp_ : Kd.R k83 83 w13 w.heap.size (fun _ => True) (.slice (some ⟨go10,0,none⟩) x3_1.length co10) y168:=(by rw [hw,Ny168.out];exact HP12.1);clear HP12;have n0_:=Aside0.mk (hp_);have n1_:=Aside0.mk ((by rw [hw];exact below_set (below_set (below_set (HB.out) GB10.out) GB10.out) GB10.out : Below w.heap.size w w13));clear HO_3;clear HB;have HO_3:=n0_;have HB:=n1_;clear n0_ n1_;clear hg hw hp_))
        go_roundg k1
        case measure => have:=HK1.out;omega
        case rel => exact ⟨(y168),(wrap64 (x4_1 + 1)),(by first | rfl | (simp;done) | (simp [*];done)),H',⟨by have:=HK1.out;omega⟩,⟨Up.Rup HO_3⟩,⟨Up.Bup HB⟩⟩
       ·rw [if_neg c9] at H
        exact absurd H (by simp)
      ·rw [if_neg c7] at H
       exact absurd H (by simp)
     ·rw [if_neg c6] at H
      have c6b0 : decide (x4_1 < (l0.length : Int)) = false:=decide_eq_false c6
      clear c6
      obtain rfl:=Option.some.inj H
      go_wp2
      go_ret
      exact ⟨_,by first | rfl | (simp [errW_none,errW_some] <;> rfl) | (simp [*,errW_none,errW_some] <;> rfl),Up.Rup HO_3,Up.Bup HB⟩
  ·rw [if_neg c3] at H
   exact absurd H (by simp)
 ·rw [if_neg c2] at H
  exact absurd H (by simp)

/-! ### laws_toFunc: function 64 -/
def laws_toFunc.f (k : Nat) (a0_0 : Int) (l0_1 : List ByteArray) (l0_2 : List ByteArray) (l0_3 : List ByteArray) (l0_4 : List Int) (l0_5 : List (S98)) : Option (Int × List ByteArray × List ByteArray × List ByteArray × List Int × (List (S83))):=(laws_toStringS.f k l0_1).bind fun t172 => ((laws_toStringS.f k l0_2).bind fun t175 => ((laws_toStringS.f k l0_3).bind fun t178 => ((laws_toIntS.f k l0_4).bind fun t181 => ((laws_toInsS.f k l0_5).bind fun t184 => (some (a0_0,t172,t175,t178,t181,t184))))))
theorem laws_toFunc.mono : ∀ a0 a1 a2 a3 a4 a5 k,LeO (laws_toFunc.f k a0 a1 a2 a3 a4 a5) (laws_toFunc.f (k + 1) a0 a1 a2 a3 a4 a5):=by
 intro a0 a1 a2 a3 a4 a5 k
 unfold laws_toFunc.f
 repeat' first
   | (with_reducible exact laws_toInsS.mono _ _)
   | (with_reducible exact laws_toIntS.mono _ _)
   | (with_reducible exact laws_toStringS.mono _ _)
   | (with_reducible exact LeO.refl _)
   | (with_reducible exact LeO.none _)
   | (with_reducible refine LeO.ite ?_ ?_)
   | (with_reducible refine LeO.bind ?_ (fun _ => ?_))
   | exact laws_toInsS.mono _ _
   | exact laws_toIntS.mono _ _
   | exact laws_toStringS.mono _ _
   | exact LeO.none _
   | refine LeO.ite ?_ ?_
   | refine LeO.bind ?_ (fun _ => ?_)
set_option maxHeartbeats 8000000 in
set_option maxRecDepth 100000 in
theorem laws_toFunc.calls (k : Nat) (a0_0 : Int) (A0_1 : Option Addr) (c0_1 : Nat) (l0_1 : List ByteArray) (A0_2 : Option Addr) (c0_2 : Nat) (l0_2 : List ByteArray) (A0_3 : Option Addr) (c0_3 : Nat) (l0_3 : List ByteArray) (A0_4 : Option Addr) (c0_4 : Nat) (l0_4 : List Int) (A0_5 : Option Addr) (c0_5 : Nat) (l0_5 : List (S98)) (r1 : Int) (r2 : List ByteArray) (r3 : List ByteArray) (r4 : List ByteArray) (r5 : List Int) (r6 : List (S83)) (w : World) (hr0_1 : Kd.C Kd.string w A0_1 l0_1.length l0_1) (hc0_1 : l0_1.length ≤ c0_1) (hr0_2 : Kd.C Kd.string w A0_2 l0_2.length l0_2) (hc0_2 : l0_2.length ≤ c0_2) (hr0_3 : Kd.C Kd.string w A0_3 l0_3.length l0_3) (hc0_3 : l0_3.length ≤ c0_3) (hr0_4 : Kd.C (Kd.int .i64) w A0_4 l0_4.length l0_4) (hc0_4 : l0_4.length ≤ c0_4) (hr0_5 : Kd.C k98 w A0_5 l0_5.length l0_5) (hc0_5 : l0_5.length ≤ c0_5) (h : laws_toFunc.f k a0_0 l0_1 l0_2 l0_3 l0_4 l0_5 = some (r1,r2,r3,r4,r5,r6)) :
  Calls Try.prog 64 #[.agg #[.int .i64 a0_0,.slice A0_1 l0_1.length c0_1,.slice A0_2 l0_2.length c0_2,.slice A0_3 l0_3.length c0_3,.slice A0_4 l0_4.length c0_4,.slice A0_5 l0_5.length c0_5]] w fun e w' => ∃ v1_ v2_ v3_ v4_ v5_ : Value,e = .returned (.agg #[.int .i64 r1,v1_,v2_,v3_,v4_,v5_]) ∧ Kd.R Kd.string 9 w' w.heap.size (fun k_ => some k_ ≠ (v2_ : Value).ownBlock ∧ some k_ ≠ (v3_ : Value).ownBlock) v1_ r2 ∧ Kd.R Kd.string 9 w' w.heap.size (fun k_ => some k_ ≠ (v1_ : Value).ownBlock ∧ some k_ ≠ (v3_ : Value).ownBlock) v2_ r3 ∧ Kd.R Kd.string 9 w' w.heap.size (fun k_ => some k_ ≠ (v1_ : Value).ownBlock ∧ some k_ ≠ (v2_ : Value).ownBlock) v3_ r4 ∧ Kd.R (Kd.int .i64) 3 w' w.heap.size (fun _ => True) v4_ r5 ∧ Kd.R k83 83 w' w.heap.size (fun _ => True) v5_ r6 ∧ Below w.heap.size w w':=by
 have hu91:=Try.underlying91
 have hu39:=Try.underlying39
 have HR0_1:=Aside0.mk hr0_1
 have HC0_1:=Aside0.mk hc0_1
 clear hr0_1 hc0_1
 have HR0_2:=Aside0.mk hr0_2
 have HC0_2:=Aside0.mk hc0_2
 clear hr0_2 hc0_2
 have HR0_3:=Aside0.mk hr0_3
 have HC0_3:=Aside0.mk hc0_3
 clear hr0_3 hc0_3
 have HR0_4:=Aside0.mk hr0_4
 have HC0_4:=Aside0.mk hc0_4
 clear hr0_4 hc0_4
 have HR0_5:=Aside0.mk hr0_5
 have HC0_5:=Aside0.mk hc0_5
 clear hr0_5 hc0_5
 have HB:=Aside0.mk (Below.refl w.heap.size w)
 have H : ((laws_toStringS.f k l0_1).bind fun t172 => ((laws_toStringS.f k l0_2).bind fun t175 => ((laws_toStringS.f k l0_3).bind fun t178 => ((laws_toIntS.f k l0_4).bind fun t181 => ((laws_toInsS.f k l0_5).bind fun t184 => (some (a0_0,t172,t175,t178,t181,t184))))))) = some (r1,r2,r3,r4,r5,r6):=h
 clear h
 replace H:=Option.bind_eq_some_iff.mp H
 obtain ⟨t172,A20,H⟩:=H
 replace H : ((laws_toStringS.f k l0_2).bind fun t175 => ((laws_toStringS.f k l0_3).bind fun t178 => ((laws_toIntS.f k l0_4).bind fun t181 => ((laws_toInsS.f k l0_5).bind fun t184 => (some (a0_0,t172,t175,t178,t181,t184)))))) = some (r1,r2,r3,r4,r5,r6):=H
 have A2:=Aside0.mk A20
 clear A20
 replace H:=Option.bind_eq_some_iff.mp H
 obtain ⟨t175,A30,H⟩:=H
 replace H : ((laws_toStringS.f k l0_3).bind fun t178 => ((laws_toIntS.f k l0_4).bind fun t181 => ((laws_toInsS.f k l0_5).bind fun t184 => (some (a0_0,t172,t175,t178,t181,t184))))) = some (r1,r2,r3,r4,r5,r6):=H
 have A3:=Aside0.mk A30
 clear A30
 replace H:=Option.bind_eq_some_iff.mp H
 obtain ⟨t178,A40,H⟩:=H
 replace H : ((laws_toIntS.f k l0_4).bind fun t181 => ((laws_toInsS.f k l0_5).bind fun t184 => (some (a0_0,t172,t175,t178,t181,t184)))) = some (r1,r2,r3,r4,r5,r6):=H
 have A4:=Aside0.mk A40
 clear A40
 replace H:=Option.bind_eq_some_iff.mp H
 obtain ⟨t181,A50,H⟩:=H
 replace H : ((laws_toInsS.f k l0_5).bind fun t184 => (some (a0_0,t172,t175,t178,t181,t184))) = some (r1,r2,r3,r4,r5,r6):=H
 have A5:=Aside0.mk A50
 clear A50
 replace H:=Option.bind_eq_some_iff.mp H
 obtain ⟨t184,A60,H⟩:=H
 replace H : (some (a0_0,t172,t175,t178,t181,t184)) = some (r1,r2,r3,r4,r5,r6):=H
 have A6:=Aside0.mk A60
 clear A60
 simp only [Option.some.injEq,Prod.mk.injEq] at H
 obtain ⟨rfl,rfl,rfl,rfl,rfl,rfl⟩:=H
 go_enter Try.func64,Try.ntmps64
 go_wp2_with (first | ((with_reducible refine gate_dst (N:=1) rfl ?_);refine box_event ?hg (N:=1) ?hd (cs:=#[.int .i64 a0_0,.slice A0_1 l0_1.length c0_1,.slice A0_2 l0_2.length c0_2,.slice A0_3 l0_3.length c0_3,.slice A0_4 l0_4.length c0_4,.slice A0_5 l0_5.length c0_5]) (t:=91) ?hr ?_;(case hd => rfl);(case hg => rfl);(case hr => first | (go_simp;done) | (go_simp;rfl));intro gb169 hg w7 hbox hb;have n0_:=Up.BB HB hb;have n1_:=Aside0.mk (hbox);have n2_:=Aside0.mk ((by rw [hg];exact (below_size (Up.Bup HB)) : w.heap.size ≤ gb169));have n3_:=Aside0.mk ((by rw [hg];exact (below_size (Up.Bup HB)) : w.heap.size ≤ gb169));clear HB;have HB:=n0_;have BK169:=n1_;have GW169:=n2_;have GE169:=n3_;clear n0_ n1_ n2_ n3_;clear hb hbox hg) | ((with_reducible refine gate_dst (N:=2) rfl ?_);refine box_event ?hg (N:=2) ?hd (cs:=#[.int .i64 0,.slice none 0 0,.slice none 0 0,.slice none 0 0,.slice none 0 0,.slice none 0 0]) (t:=39) ?hr ?_;(case hd => rfl);(case hg => rfl);(case hr => first | (go_simp;done) | (go_simp;rfl));intro gb170 hg w8 hbox hb;have n0_:=Up.KB BK169 hb;have n1_:=Aside0.mk (below_step (by repeat (first | (with_reducible first | exact HB.out | apply below_alloc | apply pw_below_drewN | apply below_drew1 | refine below_set ?_ GE169.out) | exact HB.out)) hb);have n2_:=Aside0.mk (hbox);have n3_:=Aside0.mk ((by rw [hg];exact (below_size (by repeat (first | (with_reducible first | exact HB.out | apply below_alloc | apply pw_below_drewN | apply below_drew1 | refine below_set ?_ GE169.out) | exact HB.out))) : w.heap.size ≤ gb170));have n4_:=Aside0.mk ((by rw [hg];exact (below_size (by repeat (first | (with_reducible first | exact HB.out | apply below_alloc | apply pw_below_drewN | apply below_drew1 | refine below_set ?_ GE169.out) | exact HB.out))) : w.heap.size ≤ gb170));have n5_:=Aside0.mk ((by rw [hg];exact Nat.ne_of_lt (blk_lt (g:=gb169) (o:=.cells #[.int .i64 a0_0,.slice A0_1 l0_1.length c0_1,.slice A0_2 l0_2.length c0_2,.slice A0_3 l0_3.length c0_3,.slice A0_4 l0_4.length c0_4,.slice A0_5 l0_5.length c0_5] 91 (0,0)) (Up.Kup BK169)) : gb169 ≠ gb170));have n6_:=Aside0.mk ((by rw [hg];exact Nat.ne_of_gt (blk_lt (g:=gb169) (o:=.cells #[.int .i64 a0_0,.slice A0_1 l0_1.length c0_1,.slice A0_2 l0_2.length c0_2,.slice A0_3 l0_3.length c0_3,.slice A0_4 l0_4.length c0_4,.slice A0_5 l0_5.length c0_5] 91 (0,0)) (Up.Kup BK169)) : gb170 ≠ gb169));clear BK169;clear HB;have BK169:=n0_;have HB:=n1_;have BK170:=n2_;have GW170:=n3_;have GE170:=n4_;have NB169_170:=n5_;have NB170_169:=n6_;clear n0_ n1_ n2_ n3_ n4_ n5_ n6_;clear hb hbox hg) | ((with_reducible refine gate_dst (N:=3) rfl ?_);refine box_event ?hg (N:=3) ?hd (cs:=#[.int .i64 0,.slice none 0 0,.slice none 0 0,.slice none 0 0,.slice none 0 0,.slice none 0 0]) (t:=39) ?hr ?_;(case hd => rfl);(case hg => rfl);(case hr => first | (go_simp;done) | (go_simp;rfl));intro gb171 hg w9 hbox hb;have n0_:=Up.KB BK169 hb;have n1_:=Up.KB BK170 hb;have n2_:=Aside0.mk (below_step (by repeat (first | (with_reducible first | exact HB.out | apply below_alloc | apply pw_below_drewN | apply below_drew1 | refine below_set ?_ GE169.out | refine below_set ?_ GE170.out) | exact HB.out)) hb);have n3_:=Aside0.mk (hbox);have n4_:=Aside0.mk ((by rw [hg];exact (below_size (by repeat (first | (with_reducible first | exact HB.out | apply below_alloc | apply pw_below_drewN | apply below_drew1 | refine below_set ?_ GE169.out | refine below_set ?_ GE170.out) | exact HB.out))) : w.heap.size ≤ gb171));have n5_:=Aside0.mk ((by rw [hg];exact (below_size (by repeat (first | (with_reducible first | exact HB.out | apply below_alloc | apply pw_below_drewN | apply below_drew1 | refine below_set ?_ GE169.out | refine below_set ?_ GE170.out) | exact HB.out))) : w.heap.size ≤ gb171));have n6_:=Aside0.mk ((by rw [hg];exact Nat.ne_of_lt (blk_lt (g:=gb169) (o:=.cells #[.int .i64 a0_0,.slice A0_1 l0_1.length c0_1,.slice A0_2 l0_2.length c0_2,.slice A0_3 l0_3.length c0_3,.slice A0_4 l0_4.length c0_4,.slice A0_5 l0_5.length c0_5] 91 (0,0)) (Up.Kup BK169)) : gb169 ≠ gb171));have n7_:=Aside0.mk ((by rw [hg];exact Nat.ne_of_gt (blk_lt (g:=gb169) (o:=.cells #[.int .i64 a0_0,.slice A0_1 l0_1.length c0_1,.slice A0_2 l0_2.length c0_2,.slice A0_3 l0_3.length c0_3,.slice A0_4 l0_4.length c0_4,.slice A0_5 l0_5.length c0_5] 91 (0,0)) (Up.Kup BK169)) : gb171 ≠ gb169));have n8_:=Aside0.mk ((by rw [hg];exact Nat.ne_of_lt (blk_lt (g:=gb170) (o:=.cells #[.int .i64 0,.slice none 0 0,.slice none 0 0,.slice none 0 0,.slice none 0 0,.slice none 0 0] 39 (0,0)) (Up.Kup BK170)) : gb170 ≠ gb171));have n9_:=Aside0.mk ((by rw [hg];exact Nat.ne_of_gt (blk_lt (g:=gb170) (o:=.cells #[.int .i64 0,.slice none 0 0,.slice none 0 0,.slice none 0 0,.slice none 0 0,.slice none 0 0] 39 (0,0)) (Up.Kup BK170)) : gb171 ≠ gb170));clear BK169;clear BK170;clear HB;have BK169:=n0_;have BK170:=n1_;have HB:=n2_;have BK171:=n3_;have GW171:=n4_;have GE171:=n5_;have NB169_171:=n6_;have NB171_169:=n7_;have NB170_171:=n8_;have NB171_170:=n9_;clear n0_ n1_ n2_ n3_ n4_ n5_ n6_ n7_ n8_ n9_;clear hb hbox hg;have hnb10:=NB169_170.out;have hnc10:=NB170_169.out;have hnb11:=NB169_171.out;have hnc11:=NB171_169.out;have hcz12_0 : w9.cell? ⟨gb169,0,none⟩ = some (.int .i64 a0_0):=(blk_cell BK169.out 0).trans rfl;have hcz12_1 : w9.cell? ⟨gb169,1,none⟩ = some (.slice A0_1 l0_1.length c0_1):=(blk_cell BK169.out 1).trans rfl;have hcz12_2 : w9.cell? ⟨gb169,2,none⟩ = some (.slice A0_2 l0_2.length c0_2):=(blk_cell BK169.out 2).trans rfl;have hcz12_3 : w9.cell? ⟨gb169,3,none⟩ = some (.slice A0_3 l0_3.length c0_3):=(blk_cell BK169.out 3).trans rfl;have hcz12_4 : w9.cell? ⟨gb169,4,none⟩ = some (.slice A0_4 l0_4.length c0_4):=(blk_cell BK169.out 4).trans rfl;have hcz12_5 : w9.cell? ⟨gb169,5,none⟩ = some (.slice A0_5 l0_5.length c0_5):=(blk_cell BK169.out 5).trans rfl;have hfz12_0:=blk_frozen BK169.out 0;have hfz12_1:=blk_frozen BK169.out 1;have hfz12_2:=blk_frozen BK169.out 2;have hfz12_3:=blk_frozen BK169.out 3;have hfz12_4:=blk_frozen BK169.out 4;have hfz12_5:=blk_frozen BK169.out 5;have hnb13:=NB171_170.out;have hnc13:=NB170_171.out;have hcz14_0 : w9.cell? ⟨gb171,0,none⟩ = some (.int .i64 0):=(blk_cell BK171.out 0).trans rfl;have hcz14_1 : w9.cell? ⟨gb171,1,none⟩ = some (.slice none 0 0):=(blk_cell BK171.out 1).trans rfl;have hcz14_2 : w9.cell? ⟨gb171,2,none⟩ = some (.slice none 0 0):=(blk_cell BK171.out 2).trans rfl;have hcz14_3 : w9.cell? ⟨gb171,3,none⟩ = some (.slice none 0 0):=(blk_cell BK171.out 3).trans rfl;have hcz14_4 : w9.cell? ⟨gb171,4,none⟩ = some (.slice none 0 0):=(blk_cell BK171.out 4).trans rfl;have hcz14_5 : w9.cell? ⟨gb171,5,none⟩ = some (.slice none 0 0):=(blk_cell BK171.out 5).trans rfl;have hfz14_0:=blk_frozen BK171.out 0;have hfz14_1:=blk_frozen BK171.out 1;have hfz14_2:=blk_frozen BK171.out 2;have hfz14_3:=blk_frozen BK171.out 3;have hfz14_4:=blk_frozen BK171.out 4;have hfz14_5:=blk_frozen BK171.out 5) | ((with_reducible refine gate_callee (f:=69) rfl ?_);refine goesL_ (some 9) rfl rfl Try.func69 (by kernel_rfl) rfl #[.slice A0_1 l0_1.length c0_1] rfl (by (try simp only [List.map_toArray,List.map_cons,List.map_nil]);first | done | rfl | (simp only [List.length_drop,List.length_take];rfl)) ?_;(with_reducible refine (laws_toStringS.calls k _ _ l0_1 t172 _ ?side1 ?side2 A2.out).mono ?_);(case side1 => exact Kd.C_below HR0_1.out (by repeat (first | (with_reducible first | exact HB.out | apply below_alloc | apply pw_below_drewN | apply below_drew1 | refine below_set ?_ GE169.out | refine below_set ?_ GE170.out | refine below_set ?_ GE171.out) | exact HB.out)));(case side2 => exact HC0_1.out);rintro e w15 ⟨v173,rfl,ho0,hb⟩;refine ⟨_,rfl,?_⟩;have n0_:=Aside0.mk (Kd.R_lower ho0 (below_size (by repeat (first | (with_reducible first | exact HB.out | apply below_alloc | apply pw_below_drewN | apply below_drew1 | refine below_set ?_ GE169.out | refine below_set ?_ GE170.out | refine below_set ?_ GE171.out) | exact HB.out))));have n1_:=Aside0.mk (blk_below (g:=gb169) (o:=.cells #[.int .i64 a0_0,.slice A0_1 l0_1.length c0_1,.slice A0_2 l0_2.length c0_2,.slice A0_3 l0_3.length c0_3,.slice A0_4 l0_4.length c0_4,.slice A0_5 l0_5.length c0_5] 91 (0,0)) (by (with_reducible repeat (first | refine blk_drewN ?_ _ | refine blk_drew ?_ | refine blk_alloc ?_ _));refine blk_far ?_ NB169_171.out _;(with_reducible repeat (first | refine blk_drewN ?_ _ | refine blk_drew ?_ | refine blk_alloc ?_ _));exact BK169.out) hb);have n2_:=Aside0.mk (blk_below (g:=gb170) (o:=.cells #[.int .i64 0,.slice none 0 0,.slice none 0 0,.slice none 0 0,.slice none 0 0,.slice none 0 0] 39 (0,0)) (by (with_reducible repeat (first | refine blk_drewN ?_ _ | refine blk_drew ?_ | refine blk_alloc ?_ _));refine blk_far ?_ NB170_171.out _;(with_reducible repeat (first | refine blk_drewN ?_ _ | refine blk_drew ?_ | refine blk_alloc ?_ _));exact BK170.out) hb);have n3_:=Aside0.mk (blk_below (g:=gb171) (o:=.cells #[.int .i64 a0_0,.slice none 0 0,.slice none 0 0,.slice none 0 0,.slice none 0 0,.slice none 0 0] 39 (0,0)) (by (with_reducible repeat (first | refine blk_drewN ?_ _ | refine blk_drew ?_ | refine blk_alloc ?_ _));refine blk_put (cs:=#[.int .i64 0,.slice none 0 0,.slice none 0 0,.slice none 0 0,.slice none 0 0,.slice none 0 0]) ?_ 0 _ rfl;(with_reducible repeat (first | refine blk_drewN ?_ _ | refine blk_drew ?_ | refine blk_alloc ?_ _));exact BK171.out) hb);have n4_:=Aside0.mk (below_step (by repeat (first | (with_reducible first | exact HB.out | apply below_alloc | apply pw_below_drewN | apply below_drew1 | refine below_set ?_ GE169.out | refine below_set ?_ GE170.out | refine below_set ?_ GE171.out) | exact HB.out)) hb);clear BK169;clear BK170;clear BK171;clear HB;have HO174:=n0_;have BK169:=n1_;have BK170:=n2_;have BK171:=n3_;have HB:=n4_;clear n0_ n1_ n2_ n3_ n4_;(try clear hb);(try clear hb2);(try clear hk);(try clear hi);(try clear ho0);obtain ⟨Ao16,co16,eo16⟩:=Kd.R_slice HO174.out;subst eo16;have hcz17_0 : w15.cell? ⟨gb171,0,none⟩ = some (.int .i64 a0_0):=(blk_cell BK171.out 0).trans rfl;have hcz17_1 : w15.cell? ⟨gb171,1,none⟩ = some (.slice none 0 0):=(blk_cell BK171.out 1).trans rfl;have hcz17_2 : w15.cell? ⟨gb171,2,none⟩ = some (.slice none 0 0):=(blk_cell BK171.out 2).trans rfl;have hcz17_3 : w15.cell? ⟨gb171,3,none⟩ = some (.slice none 0 0):=(blk_cell BK171.out 3).trans rfl;have hcz17_4 : w15.cell? ⟨gb171,4,none⟩ = some (.slice none 0 0):=(blk_cell BK171.out 4).trans rfl;have hcz17_5 : w15.cell? ⟨gb171,5,none⟩ = some (.slice none 0 0):=(blk_cell BK171.out 5).trans rfl;have hfz17_0:=blk_frozen BK171.out 0;have hfz17_1:=blk_frozen BK171.out 1;have hfz17_2:=blk_frozen BK171.out 2;have hfz17_3:=blk_frozen BK171.out 3;have hfz17_4:=blk_frozen BK171.out 4;have hfz17_5:=blk_frozen BK171.out 5;have hcz18_0 : w15.cell? ⟨gb169,0,none⟩ = some (.int .i64 a0_0):=(blk_cell BK169.out 0).trans rfl;have hcz18_1 : w15.cell? ⟨gb169,1,none⟩ = some (.slice A0_1 l0_1.length c0_1):=(blk_cell BK169.out 1).trans rfl;have hcz18_2 : w15.cell? ⟨gb169,2,none⟩ = some (.slice A0_2 l0_2.length c0_2):=(blk_cell BK169.out 2).trans rfl;have hcz18_3 : w15.cell? ⟨gb169,3,none⟩ = some (.slice A0_3 l0_3.length c0_3):=(blk_cell BK169.out 3).trans rfl;have hcz18_4 : w15.cell? ⟨gb169,4,none⟩ = some (.slice A0_4 l0_4.length c0_4):=(blk_cell BK169.out 4).trans rfl;have hcz18_5 : w15.cell? ⟨gb169,5,none⟩ = some (.slice A0_5 l0_5.length c0_5):=(blk_cell BK169.out 5).trans rfl;have hfz18_0:=blk_frozen BK169.out 0;have hfz18_1:=blk_frozen BK169.out 1;have hfz18_2:=blk_frozen BK169.out 2;have hfz18_3:=blk_frozen BK169.out 3;have hfz18_4:=blk_frozen BK169.out 4;have hfz18_5:=blk_frozen BK169.out 5) | ((with_reducible refine gate_callee (f:=69) rfl ?_);refine goesL_ (some 13) rfl rfl Try.func69 (by kernel_rfl) rfl #[.slice A0_2 l0_2.length c0_2] rfl (by (try simp only [List.map_toArray,List.map_cons,List.map_nil]);first | done | rfl | (simp only [List.length_drop,List.length_take];rfl)) ?_;(with_reducible refine (laws_toStringS.calls k _ _ l0_2 t175 _ ?side1 ?side2 A3.out).mono ?_);(case side1 => exact Kd.C_below HR0_2.out (by repeat (first | (with_reducible first | exact HB.out | apply below_alloc | apply pw_below_drewN | apply below_drew1 | refine below_set ?_ GE169.out | refine below_set ?_ GE170.out | refine below_set ?_ GE171.out) | exact HB.out)));(case side2 => exact HC0_2.out);rintro e w19 ⟨v176,rfl,ho0,hb⟩;refine ⟨_,rfl,?_⟩;have n0_:=Aside0.mk (Kd.R_elder' (by (with_reducible repeat (first | apply Kd.R_alloc | apply Kd.R_drewN | apply Kd.R_drew));exact (Kd.R_mono (Kd.R_far (p:=⟨gb171,1,none⟩) (Kd.R_types HO174.out BK171.out (by decide)) (fun _ hk => hk.2) (.slice Ao16 t172.length co16)) (fun _ h_ => h_.1))) (Kd.R_base ho0) hb);have n1_:=Aside0.mk (Kd.R_lower (Kd.R_new' ho0 (Kd.R_lt (by (with_reducible repeat (first | apply Kd.R_alloc | apply Kd.R_drewN | apply Kd.R_drew));exact (Kd.R_mono (Kd.R_far (p:=⟨gb171,1,none⟩) (Kd.R_types HO174.out BK171.out (by decide)) (fun _ hk => hk.2) (.slice Ao16 t172.length co16)) (fun _ h_ => h_.1))))) (below_size (by repeat (first | (with_reducible first | exact HB.out | apply below_alloc | apply pw_below_drewN | apply below_drew1 | refine below_set ?_ GE169.out | refine below_set ?_ GE170.out | refine below_set ?_ GE171.out) | exact HB.out))));have n2_:=Aside0.mk (blk_below (g:=gb169) (o:=.cells #[.int .i64 a0_0,.slice A0_1 l0_1.length c0_1,.slice A0_2 l0_2.length c0_2,.slice A0_3 l0_3.length c0_3,.slice A0_4 l0_4.length c0_4,.slice A0_5 l0_5.length c0_5] 91 (0,0)) (by (with_reducible repeat (first | refine blk_drewN ?_ _ | refine blk_drew ?_ | refine blk_alloc ?_ _));refine blk_far ?_ NB169_171.out _;(with_reducible repeat (first | refine blk_drewN ?_ _ | refine blk_drew ?_ | refine blk_alloc ?_ _));exact BK169.out) hb);have n3_:=Aside0.mk (blk_below (g:=gb170) (o:=.cells #[.int .i64 0,.slice none 0 0,.slice none 0 0,.slice none 0 0,.slice none 0 0,.slice none 0 0] 39 (0,0)) (by (with_reducible repeat (first | refine blk_drewN ?_ _ | refine blk_drew ?_ | refine blk_alloc ?_ _));refine blk_far ?_ NB170_171.out _;(with_reducible repeat (first | refine blk_drewN ?_ _ | refine blk_drew ?_ | refine blk_alloc ?_ _));exact BK170.out) hb);have n4_:=Aside0.mk (blk_below (g:=gb171) (o:=.cells #[.int .i64 a0_0,.slice Ao16 t172.length co16,.slice none 0 0,.slice none 0 0,.slice none 0 0,.slice none 0 0] 39 (0,0)) (by (with_reducible repeat (first | refine blk_drewN ?_ _ | refine blk_drew ?_ | refine blk_alloc ?_ _));refine blk_put (cs:=#[.int .i64 a0_0,.slice none 0 0,.slice none 0 0,.slice none 0 0,.slice none 0 0,.slice none 0 0]) ?_ 1 _ rfl;(with_reducible repeat (first | refine blk_drewN ?_ _ | refine blk_drew ?_ | refine blk_alloc ?_ _));exact BK171.out) hb);have n5_:=Aside0.mk (below_step (by repeat (first | (with_reducible first | exact HB.out | apply below_alloc | apply pw_below_drewN | apply below_drew1 | refine below_set ?_ GE169.out | refine below_set ?_ GE170.out | refine below_set ?_ GE171.out) | exact HB.out)) hb);clear HO174;clear BK169;clear BK170;clear BK171;clear HB;have HO174:=n0_;have HO177:=n1_;have BK169:=n2_;have BK170:=n3_;have BK171:=n4_;have HB:=n5_;clear n0_ n1_ n2_ n3_ n4_ n5_;(try clear hb);(try clear hb2);(try clear hk);(try clear hi);(try clear ho0);obtain ⟨Ao20,co20,eo20⟩:=Kd.R_slice HO177.out;subst eo20;have hcz21_0 : w19.cell? ⟨gb171,0,none⟩ = some (.int .i64 a0_0):=(blk_cell BK171.out 0).trans rfl;have hcz21_1 : w19.cell? ⟨gb171,1,none⟩ = some (.slice Ao16 t172.length co16):=(blk_cell BK171.out 1).trans rfl;have hcz21_2 : w19.cell? ⟨gb171,2,none⟩ = some (.slice none 0 0):=(blk_cell BK171.out 2).trans rfl;have hcz21_3 : w19.cell? ⟨gb171,3,none⟩ = some (.slice none 0 0):=(blk_cell BK171.out 3).trans rfl;have hcz21_4 : w19.cell? ⟨gb171,4,none⟩ = some (.slice none 0 0):=(blk_cell BK171.out 4).trans rfl;have hcz21_5 : w19.cell? ⟨gb171,5,none⟩ = some (.slice none 0 0):=(blk_cell BK171.out 5).trans rfl;have hfz21_0:=blk_frozen BK171.out 0;have hfz21_1:=blk_frozen BK171.out 1;have hfz21_2:=blk_frozen BK171.out 2;have hfz21_3:=blk_frozen BK171.out 3;have hfz21_4:=blk_frozen BK171.out 4;have hfz21_5:=blk_frozen BK171.out 5;have hcz22_0 : w19.cell? ⟨gb169,0,none⟩ = some (.int .i64 a0_0):=(blk_cell BK169.out 0).trans rfl;have hcz22_1 : w19.cell? ⟨gb169,1,none⟩ = some (.slice A0_1 l0_1.length c0_1):=(blk_cell BK169.out 1).trans rfl;have hcz22_2 : w19.cell? ⟨gb169,2,none⟩ = some (.slice A0_2 l0_2.length c0_2):=(blk_cell BK169.out 2).trans rfl;have hcz22_3 : w19.cell? ⟨gb169,3,none⟩ = some (.slice A0_3 l0_3.length c0_3):=(blk_cell BK169.out 3).trans rfl;have hcz22_4 : w19.cell? ⟨gb169,4,none⟩ = some (.slice A0_4 l0_4.length c0_4):=(blk_cell BK169.out 4).trans rfl;have hcz22_5 : w19.cell? ⟨gb169,5,none⟩ = some (.slice A0_5 l0_5.length c0_5):=(blk_cell BK169.out 5).trans rfl;have hfz22_0:=blk_frozen BK169.out 0;have hfz22_1:=blk_frozen BK169.out 1;have hfz22_2:=blk_frozen BK169.out 2;have hfz22_3:=blk_frozen BK169.out 3;have hfz22_4:=blk_frozen BK169.out 4;have hfz22_5:=blk_frozen BK169.out 5) | ((with_reducible refine gate_callee (f:=69) rfl ?_);refine goesL_ (some 17) rfl rfl Try.func69 (by kernel_rfl) rfl #[.slice A0_3 l0_3.length c0_3] rfl (by (try simp only [List.map_toArray,List.map_cons,List.map_nil]);first | done | rfl | (simp only [List.length_drop,List.length_take];rfl)) ?_;(with_reducible refine (laws_toStringS.calls k _ _ l0_3 t178 _ ?side1 ?side2 A4.out).mono ?_);(case side1 => exact Kd.C_below HR0_3.out (by repeat (first | (with_reducible first | exact HB.out | apply below_alloc | apply pw_below_drewN | apply below_drew1 | refine below_set ?_ GE169.out | refine below_set ?_ GE170.out | refine below_set ?_ GE171.out) | exact HB.out)));(case side2 => exact HC0_3.out);rintro e w23 ⟨v179,rfl,ho0,hb⟩;refine ⟨_,rfl,?_⟩;have n0_:=Aside0.mk (Kd.R_elder' (by (with_reducible repeat (first | apply Kd.R_alloc | apply Kd.R_drewN | apply Kd.R_drew));exact (Kd.R_mono (Kd.R_far (p:=⟨gb171,2,none⟩) (Kd.R_types HO174.out BK171.out (by decide)) (fun _ hk => hk.2) (.slice Ao20 t175.length co20)) (fun _ h_ => h_.1))) (Kd.R_base ho0) hb);have n1_:=Aside0.mk (Kd.R_elder' (by (with_reducible repeat (first | apply Kd.R_alloc | apply Kd.R_drewN | apply Kd.R_drew));exact (Kd.R_mono (Kd.R_far (p:=⟨gb171,2,none⟩) (Kd.R_types HO177.out BK171.out (by decide)) (fun _ hk => hk.2) (.slice Ao20 t175.length co20)) (fun _ h_ => h_.1))) (Kd.R_base ho0) hb);have n2_:=Aside0.mk (Kd.R_lower (Kd.R_new' (Kd.R_new' ho0 (Kd.R_lt (by (with_reducible repeat (first | apply Kd.R_alloc | apply Kd.R_drewN | apply Kd.R_drew));exact (Kd.R_mono (Kd.R_far (p:=⟨gb171,2,none⟩) (Kd.R_types HO174.out BK171.out (by decide)) (fun _ hk => hk.2) (.slice Ao20 t175.length co20)) (fun _ h_ => h_.1))))) (Kd.R_lt (by (with_reducible repeat (first | apply Kd.R_alloc | apply Kd.R_drewN | apply Kd.R_drew));exact (Kd.R_mono (Kd.R_far (p:=⟨gb171,2,none⟩) (Kd.R_types HO177.out BK171.out (by decide)) (fun _ hk => hk.2) (.slice Ao20 t175.length co20)) (fun _ h_ => h_.1))))) (below_size (by repeat (first | (with_reducible first | exact HB.out | apply below_alloc | apply pw_below_drewN | apply below_drew1 | refine below_set ?_ GE169.out | refine below_set ?_ GE170.out | refine below_set ?_ GE171.out) | exact HB.out))));have n3_:=Aside0.mk (blk_below (g:=gb169) (o:=.cells #[.int .i64 a0_0,.slice A0_1 l0_1.length c0_1,.slice A0_2 l0_2.length c0_2,.slice A0_3 l0_3.length c0_3,.slice A0_4 l0_4.length c0_4,.slice A0_5 l0_5.length c0_5] 91 (0,0)) (by (with_reducible repeat (first | refine blk_drewN ?_ _ | refine blk_drew ?_ | refine blk_alloc ?_ _));refine blk_far ?_ NB169_171.out _;(with_reducible repeat (first | refine blk_drewN ?_ _ | refine blk_drew ?_ | refine blk_alloc ?_ _));exact BK169.out) hb);have n4_:=Aside0.mk (blk_below (g:=gb170) (o:=.cells #[.int .i64 0,.slice none 0 0,.slice none 0 0,.slice none 0 0,.slice none 0 0,.slice none 0 0] 39 (0,0)) (by (with_reducible repeat (first | refine blk_drewN ?_ _ | refine blk_drew ?_ | refine blk_alloc ?_ _));refine blk_far ?_ NB170_171.out _;(with_reducible repeat (first | refine blk_drewN ?_ _ | refine blk_drew ?_ | refine blk_alloc ?_ _));exact BK170.out) hb);have n5_:=Aside0.mk (blk_below (g:=gb171) (o:=.cells #[.int .i64 a0_0,.slice Ao16 t172.length co16,.slice Ao20 t175.length co20,.slice none 0 0,.slice none 0 0,.slice none 0 0] 39 (0,0)) (by (with_reducible repeat (first | refine blk_drewN ?_ _ | refine blk_drew ?_ | refine blk_alloc ?_ _));refine blk_put (cs:=#[.int .i64 a0_0,.slice Ao16 t172.length co16,.slice none 0 0,.slice none 0 0,.slice none 0 0,.slice none 0 0]) ?_ 2 _ rfl;(with_reducible repeat (first | refine blk_drewN ?_ _ | refine blk_drew ?_ | refine blk_alloc ?_ _));exact BK171.out) hb);have n6_:=Aside0.mk (below_step (by repeat (first | (with_reducible first | exact HB.out | apply below_alloc | apply pw_below_drewN | apply below_drew1 | refine below_set ?_ GE169.out | refine below_set ?_ GE170.out | refine below_set ?_ GE171.out) | exact HB.out)) hb);clear HO174;clear HO177;clear BK169;clear BK170;clear BK171;clear HB;have HO174:=n0_;have HO177:=n1_;have HO180:=n2_;have BK169:=n3_;have BK170:=n4_;have BK171:=n5_;have HB:=n6_;clear n0_ n1_ n2_ n3_ n4_ n5_ n6_;(try clear hb);(try clear hb2);(try clear hk);(try clear hi);(try clear ho0);obtain ⟨Ao24,co24,eo24⟩:=Kd.R_slice HO180.out;subst eo24;have hcz25_0 : w23.cell? ⟨gb171,0,none⟩ = some (.int .i64 a0_0):=(blk_cell BK171.out 0).trans rfl;have hcz25_1 : w23.cell? ⟨gb171,1,none⟩ = some (.slice Ao16 t172.length co16):=(blk_cell BK171.out 1).trans rfl;have hcz25_2 : w23.cell? ⟨gb171,2,none⟩ = some (.slice Ao20 t175.length co20):=(blk_cell BK171.out 2).trans rfl;have hcz25_3 : w23.cell? ⟨gb171,3,none⟩ = some (.slice none 0 0):=(blk_cell BK171.out 3).trans rfl;have hcz25_4 : w23.cell? ⟨gb171,4,none⟩ = some (.slice none 0 0):=(blk_cell BK171.out 4).trans rfl;have hcz25_5 : w23.cell? ⟨gb171,5,none⟩ = some (.slice none 0 0):=(blk_cell BK171.out 5).trans rfl;have hfz25_0:=blk_frozen BK171.out 0;have hfz25_1:=blk_frozen BK171.out 1;have hfz25_2:=blk_frozen BK171.out 2;have hfz25_3:=blk_frozen BK171.out 3;have hfz25_4:=blk_frozen BK171.out 4;have hfz25_5:=blk_frozen BK171.out 5;have hcz26_0 : w23.cell? ⟨gb169,0,none⟩ = some (.int .i64 a0_0):=(blk_cell BK169.out 0).trans rfl;have hcz26_1 : w23.cell? ⟨gb169,1,none⟩ = some (.slice A0_1 l0_1.length c0_1):=(blk_cell BK169.out 1).trans rfl;have hcz26_2 : w23.cell? ⟨gb169,2,none⟩ = some (.slice A0_2 l0_2.length c0_2):=(blk_cell BK169.out 2).trans rfl;have hcz26_3 : w23.cell? ⟨gb169,3,none⟩ = some (.slice A0_3 l0_3.length c0_3):=(blk_cell BK169.out 3).trans rfl;have hcz26_4 : w23.cell? ⟨gb169,4,none⟩ = some (.slice A0_4 l0_4.length c0_4):=(blk_cell BK169.out 4).trans rfl;have hcz26_5 : w23.cell? ⟨gb169,5,none⟩ = some (.slice A0_5 l0_5.length c0_5):=(blk_cell BK169.out 5).trans rfl;have hfz26_0:=blk_frozen BK169.out 0;have hfz26_1:=blk_frozen BK169.out 1;have hfz26_2:=blk_frozen BK169.out 2;have hfz26_3:=blk_frozen BK169.out 3;have hfz26_4:=blk_frozen BK169.out 4;have hfz26_5:=blk_frozen BK169.out 5) | ((with_reducible refine gate_callee (f:=51) rfl ?_);refine goesL_ (some 21) rfl rfl Try.func51 (by kernel_rfl) rfl #[.slice A0_4 l0_4.length c0_4] rfl (by (try simp only [List.map_toArray,List.map_cons,List.map_nil]);first | done | rfl | (simp only [List.length_drop,List.length_take];rfl)) ?_;(with_reducible refine (laws_toIntS.calls k _ _ l0_4 t181 _ ?side1 ?side2 A5.out).mono ?_);(case side1 => exact Kd.C_below HR0_4.out (by repeat (first | (with_reducible first | exact HB.out | apply below_alloc | apply pw_below_drewN | apply below_drew1 | refine below_set ?_ GE169.out | refine below_set ?_ GE170.out | refine below_set ?_ GE171.out) | exact HB.out)));(case side2 => exact HC0_4.out);rintro e w27 ⟨v182,rfl,ho0,hb⟩;refine ⟨_,rfl,?_⟩;have n0_:=Aside0.mk (Kd.R_below (by (with_reducible repeat (first | apply Kd.R_alloc | apply Kd.R_drewN | apply Kd.R_drew));exact (Kd.R_mono (Kd.R_far (p:=⟨gb171,3,none⟩) (Kd.R_types HO174.out BK171.out (by decide)) (fun _ hk => hk.2) (.slice Ao24 t178.length co24)) (fun _ h_ => h_.1))) hb);have n1_:=Aside0.mk (Kd.R_below (by (with_reducible repeat (first | apply Kd.R_alloc | apply Kd.R_drewN | apply Kd.R_drew));exact (Kd.R_mono (Kd.R_far (p:=⟨gb171,3,none⟩) (Kd.R_types HO177.out BK171.out (by decide)) (fun _ hk => hk.2) (.slice Ao24 t178.length co24)) (fun _ h_ => h_.1))) hb);have n2_:=Aside0.mk (Kd.R_below (by (with_reducible repeat (first | apply Kd.R_alloc | apply Kd.R_drewN | apply Kd.R_drew));exact (Kd.R_mono (Kd.R_far (p:=⟨gb171,3,none⟩) (Kd.R_types HO180.out BK171.out (by decide)) (fun _ hk => hk.2) (.slice Ao24 t178.length co24)) (fun _ h_ => h_.1))) hb);have n3_:=Aside0.mk (Kd.R_lower ho0 (below_size (by repeat (first | (with_reducible first | exact HB.out | apply below_alloc | apply pw_below_drewN | apply below_drew1 | refine below_set ?_ GE169.out | refine below_set ?_ GE170.out | refine below_set ?_ GE171.out) | exact HB.out))));have n4_:=Aside0.mk (blk_below (g:=gb169) (o:=.cells #[.int .i64 a0_0,.slice A0_1 l0_1.length c0_1,.slice A0_2 l0_2.length c0_2,.slice A0_3 l0_3.length c0_3,.slice A0_4 l0_4.length c0_4,.slice A0_5 l0_5.length c0_5] 91 (0,0)) (by (with_reducible repeat (first | refine blk_drewN ?_ _ | refine blk_drew ?_ | refine blk_alloc ?_ _));refine blk_far ?_ NB169_171.out _;(with_reducible repeat (first | refine blk_drewN ?_ _ | refine blk_drew ?_ | refine blk_alloc ?_ _));exact BK169.out) hb);have n5_:=Aside0.mk (blk_below (g:=gb170) (o:=.cells #[.int .i64 0,.slice none 0 0,.slice none 0 0,.slice none 0 0,.slice none 0 0,.slice none 0 0] 39 (0,0)) (by (with_reducible repeat (first | refine blk_drewN ?_ _ | refine blk_drew ?_ | refine blk_alloc ?_ _));refine blk_far ?_ NB170_171.out _;(with_reducible repeat (first | refine blk_drewN ?_ _ | refine blk_drew ?_ | refine blk_alloc ?_ _));exact BK170.out) hb);have n6_:=Aside0.mk (blk_below (g:=gb171) (o:=.cells #[.int .i64 a0_0,.slice Ao16 t172.length co16,.slice Ao20 t175.length co20,.slice Ao24 t178.length co24,.slice none 0 0,.slice none 0 0] 39 (0,0)) (by (with_reducible repeat (first | refine blk_drewN ?_ _ | refine blk_drew ?_ | refine blk_alloc ?_ _));refine blk_put (cs:=#[.int .i64 a0_0,.slice Ao16 t172.length co16,.slice Ao20 t175.length co20,.slice none 0 0,.slice none 0 0,.slice none 0 0]) ?_ 3 _ rfl;(with_reducible repeat (first | refine blk_drewN ?_ _ | refine blk_drew ?_ | refine blk_alloc ?_ _));exact BK171.out) hb);have n7_:=Aside0.mk (below_step (by repeat (first | (with_reducible first | exact HB.out | apply below_alloc | apply pw_below_drewN | apply below_drew1 | refine below_set ?_ GE169.out | refine below_set ?_ GE170.out | refine below_set ?_ GE171.out) | exact HB.out)) hb);clear HO174;clear HO177;clear HO180;clear BK169;clear BK170;clear BK171;clear HB;have HO174:=n0_;have HO177:=n1_;have HO180:=n2_;have HO183:=n3_;have BK169:=n4_;have BK170:=n5_;have BK171:=n6_;have HB:=n7_;clear n0_ n1_ n2_ n3_ n4_ n5_ n6_ n7_;(try clear hb);(try clear hb2);(try clear hk);(try clear hi);(try clear ho0);obtain ⟨Ao28,co28,eo28⟩:=Kd.R_slice HO183.out;subst eo28;have hcz29_0 : w27.cell? ⟨gb171,0,none⟩ = some (.int .i64 a0_0):=(blk_cell BK171.out 0).trans rfl;have hcz29_1 : w27.cell? ⟨gb171,1,none⟩ = some (.slice Ao16 t172.length co16):=(blk_cell BK171.out 1).trans rfl;have hcz29_2 : w27.cell? ⟨gb171,2,none⟩ = some (.slice Ao20 t175.length co20):=(blk_cell BK171.out 2).trans rfl;have hcz29_3 : w27.cell? ⟨gb171,3,none⟩ = some (.slice Ao24 t178.length co24):=(blk_cell BK171.out 3).trans rfl;have hcz29_4 : w27.cell? ⟨gb171,4,none⟩ = some (.slice none 0 0):=(blk_cell BK171.out 4).trans rfl;have hcz29_5 : w27.cell? ⟨gb171,5,none⟩ = some (.slice none 0 0):=(blk_cell BK171.out 5).trans rfl;have hfz29_0:=blk_frozen BK171.out 0;have hfz29_1:=blk_frozen BK171.out 1;have hfz29_2:=blk_frozen BK171.out 2;have hfz29_3:=blk_frozen BK171.out 3;have hfz29_4:=blk_frozen BK171.out 4;have hfz29_5:=blk_frozen BK171.out 5;have hcz30_0 : w27.cell? ⟨gb169,0,none⟩ = some (.int .i64 a0_0):=(blk_cell BK169.out 0).trans rfl;have hcz30_1 : w27.cell? ⟨gb169,1,none⟩ = some (.slice A0_1 l0_1.length c0_1):=(blk_cell BK169.out 1).trans rfl;have hcz30_2 : w27.cell? ⟨gb169,2,none⟩ = some (.slice A0_2 l0_2.length c0_2):=(blk_cell BK169.out 2).trans rfl;have hcz30_3 : w27.cell? ⟨gb169,3,none⟩ = some (.slice A0_3 l0_3.length c0_3):=(blk_cell BK169.out 3).trans rfl;have hcz30_4 : w27.cell? ⟨gb169,4,none⟩ = some (.slice A0_4 l0_4.length c0_4):=(blk_cell BK169.out 4).trans rfl;have hcz30_5 : w27.cell? ⟨gb169,5,none⟩ = some (.slice A0_5 l0_5.length c0_5):=(blk_cell BK169.out 5).trans rfl;have hfz30_0:=blk_frozen BK169.out 0;have hfz30_1:=blk_frozen BK169.out 1;have hfz30_2:=blk_frozen BK169.out 2;have hfz30_3:=blk_frozen BK169.out 3;have hfz30_4:=blk_frozen BK169.out 4;have hfz30_5:=blk_frozen BK169.out 5) | ((with_reducible refine gate_callee (f:=70) rfl ?_);refine goesL_ (some 25) rfl rfl Try.func70 (by kernel_rfl) rfl #[.slice A0_5 l0_5.length c0_5] rfl (by (try simp only [List.map_toArray,List.map_cons,List.map_nil]);first | done | rfl | (simp only [List.length_drop,List.length_take];rfl)) ?_;(with_reducible refine (laws_toInsS.calls k _ _ l0_5 t184 _ ?side1 ?side2 A6.out).mono ?_);(case side1 => exact Kd.C_below HR0_5.out (by repeat (first | (with_reducible first | exact HB.out | apply below_alloc | apply pw_below_drewN | apply below_drew1 | refine below_set ?_ GE169.out | refine below_set ?_ GE170.out | refine below_set ?_ GE171.out) | exact HB.out)));(case side2 => exact HC0_5.out);rintro e w31 ⟨v185,rfl,ho0,hb⟩;refine ⟨_,rfl,?_⟩;have n0_:=Aside0.mk (Kd.R_below (by (with_reducible repeat (first | apply Kd.R_alloc | apply Kd.R_drewN | apply Kd.R_drew));exact (Kd.R_mono (Kd.R_far (p:=⟨gb171,4,none⟩) (Kd.R_types HO174.out BK171.out (by decide)) (fun _ hk => hk.2) (.slice Ao28 t181.length co28)) (fun _ h_ => h_.1))) hb);have n1_:=Aside0.mk (Kd.R_below (by (with_reducible repeat (first | apply Kd.R_alloc | apply Kd.R_drewN | apply Kd.R_drew));exact (Kd.R_mono (Kd.R_far (p:=⟨gb171,4,none⟩) (Kd.R_types HO177.out BK171.out (by decide)) (fun _ hk => hk.2) (.slice Ao28 t181.length co28)) (fun _ h_ => h_.1))) hb);have n2_:=Aside0.mk (Kd.R_below (by (with_reducible repeat (first | apply Kd.R_alloc | apply Kd.R_drewN | apply Kd.R_drew));exact (Kd.R_mono (Kd.R_far (p:=⟨gb171,4,none⟩) (Kd.R_types HO180.out BK171.out (by decide)) (fun _ hk => hk.2) (.slice Ao28 t181.length co28)) (fun _ h_ => h_.1))) hb);have n3_:=Aside0.mk (Kd.R_below (by (with_reducible repeat (first | apply Kd.R_alloc | apply Kd.R_drewN | apply Kd.R_drew));exact (Kd.R_mono (Kd.R_far (p:=⟨gb171,4,none⟩) (Kd.R_types HO183.out BK171.out (by decide)) (fun _ hk => hk.2) (.slice Ao28 t181.length co28)) (fun _ h_ => h_.1))) hb);have n4_:=Aside0.mk (Kd.R_lower ho0 (below_size (by repeat (first | (with_reducible first | exact HB.out | apply below_alloc | apply pw_below_drewN | apply below_drew1 | refine below_set ?_ GE169.out | refine below_set ?_ GE170.out | refine below_set ?_ GE171.out) | exact HB.out))));have n5_:=Aside0.mk (blk_below (g:=gb169) (o:=.cells #[.int .i64 a0_0,.slice A0_1 l0_1.length c0_1,.slice A0_2 l0_2.length c0_2,.slice A0_3 l0_3.length c0_3,.slice A0_4 l0_4.length c0_4,.slice A0_5 l0_5.length c0_5] 91 (0,0)) (by (with_reducible repeat (first | refine blk_drewN ?_ _ | refine blk_drew ?_ | refine blk_alloc ?_ _));refine blk_far ?_ NB169_171.out _;(with_reducible repeat (first | refine blk_drewN ?_ _ | refine blk_drew ?_ | refine blk_alloc ?_ _));exact BK169.out) hb);have n6_:=Aside0.mk (blk_below (g:=gb170) (o:=.cells #[.int .i64 0,.slice none 0 0,.slice none 0 0,.slice none 0 0,.slice none 0 0,.slice none 0 0] 39 (0,0)) (by (with_reducible repeat (first | refine blk_drewN ?_ _ | refine blk_drew ?_ | refine blk_alloc ?_ _));refine blk_far ?_ NB170_171.out _;(with_reducible repeat (first | refine blk_drewN ?_ _ | refine blk_drew ?_ | refine blk_alloc ?_ _));exact BK170.out) hb);have n7_:=Aside0.mk (blk_below (g:=gb171) (o:=.cells #[.int .i64 a0_0,.slice Ao16 t172.length co16,.slice Ao20 t175.length co20,.slice Ao24 t178.length co24,.slice Ao28 t181.length co28,.slice none 0 0] 39 (0,0)) (by (with_reducible repeat (first | refine blk_drewN ?_ _ | refine blk_drew ?_ | refine blk_alloc ?_ _));refine blk_put (cs:=#[.int .i64 a0_0,.slice Ao16 t172.length co16,.slice Ao20 t175.length co20,.slice Ao24 t178.length co24,.slice none 0 0,.slice none 0 0]) ?_ 4 _ rfl;(with_reducible repeat (first | refine blk_drewN ?_ _ | refine blk_drew ?_ | refine blk_alloc ?_ _));exact BK171.out) hb);have n8_:=Aside0.mk (below_step (by repeat (first | (with_reducible first | exact HB.out | apply below_alloc | apply pw_below_drewN | apply below_drew1 | refine below_set ?_ GE169.out | refine below_set ?_ GE170.out | refine below_set ?_ GE171.out) | exact HB.out)) hb);clear HO174;clear HO177;clear HO180;clear HO183;clear BK169;clear BK170;clear BK171;clear HB;have HO174:=n0_;have HO177:=n1_;have HO180:=n2_;have HO183:=n3_;have HO186:=n4_;have BK169:=n5_;have BK170:=n6_;have BK171:=n7_;have HB:=n8_;clear n0_ n1_ n2_ n3_ n4_ n5_ n6_ n7_ n8_;(try clear hb);(try clear hb2);(try clear hk);(try clear hi);(try clear ho0);obtain ⟨Ao32,co32,eo32⟩:=Kd.R_slice HO186.out;subst eo32;have hcz33_0 : w31.cell? ⟨gb171,0,none⟩ = some (.int .i64 a0_0):=(blk_cell BK171.out 0).trans rfl;have hcz33_1 : w31.cell? ⟨gb171,1,none⟩ = some (.slice Ao16 t172.length co16):=(blk_cell BK171.out 1).trans rfl;have hcz33_2 : w31.cell? ⟨gb171,2,none⟩ = some (.slice Ao20 t175.length co20):=(blk_cell BK171.out 2).trans rfl;have hcz33_3 : w31.cell? ⟨gb171,3,none⟩ = some (.slice Ao24 t178.length co24):=(blk_cell BK171.out 3).trans rfl;have hcz33_4 : w31.cell? ⟨gb171,4,none⟩ = some (.slice Ao28 t181.length co28):=(blk_cell BK171.out 4).trans rfl;have hcz33_5 : w31.cell? ⟨gb171,5,none⟩ = some (.slice none 0 0):=(blk_cell BK171.out 5).trans rfl;have hfz33_0:=blk_frozen BK171.out 0;have hfz33_1:=blk_frozen BK171.out 1;have hfz33_2:=blk_frozen BK171.out 2;have hfz33_3:=blk_frozen BK171.out 3;have hfz33_4:=blk_frozen BK171.out 4;have hfz33_5:=blk_frozen BK171.out 5;have hcz34_0 : w31.cell? ⟨gb170,0,none⟩ = some (.int .i64 0):=(blk_cell BK170.out 0).trans rfl;have hcz34_1 : w31.cell? ⟨gb170,1,none⟩ = some (.slice none 0 0):=(blk_cell BK170.out 1).trans rfl;have hcz34_2 : w31.cell? ⟨gb170,2,none⟩ = some (.slice none 0 0):=(blk_cell BK170.out 2).trans rfl;have hcz34_3 : w31.cell? ⟨gb170,3,none⟩ = some (.slice none 0 0):=(blk_cell BK170.out 3).trans rfl;have hcz34_4 : w31.cell? ⟨gb170,4,none⟩ = some (.slice none 0 0):=(blk_cell BK170.out 4).trans rfl;have hcz34_5 : w31.cell? ⟨gb170,5,none⟩ = some (.slice none 0 0):=(blk_cell BK170.out 5).trans rfl;have hfz34_0:=blk_frozen BK170.out 0;have hfz34_1:=blk_frozen BK170.out 1;have hfz34_2:=blk_frozen BK170.out 2;have hfz34_3:=blk_frozen BK170.out 3;have hfz34_4:=blk_frozen BK170.out 4;have hfz34_5:=blk_frozen BK170.out 5))
 refine bodyPost_ret (results_cell_row rfl _ _ gb170 39 #[.int .i64 a0_0,.slice Ao16 t172.length co16,.slice Ao20 t175.length co20,.slice Ao24 t178.length co24,.slice Ao28 t181.length co28,.slice Ao32 t184.length co32] (0,0) _ rfl (by (with_reducible repeat (first | refine blk_drewN ?_ _ | refine blk_drew ?_ | refine blk_alloc ?_ _));refine blk_put (cs:=#[.int .i64 a0_0,.slice Ao16 t172.length co16,.slice Ao20 t175.length co20,.slice Ao24 t178.length co24,.slice Ao28 t181.length co28,.slice none 0 0]) ?_ 5 _ rfl;(with_reducible repeat (first | refine blk_drewN ?_ _ | refine blk_drew ?_ | refine blk_alloc ?_ _));refine blk_put (cs:=#[.int .i64 a0_0,.slice Ao16 t172.length co16,.slice Ao20 t175.length co20,.slice Ao24 t178.length co24,.slice none 0 0,.slice none 0 0]) ?_ 4 _ rfl;(with_reducible repeat (first | refine blk_drewN ?_ _ | refine blk_drew ?_ | refine blk_alloc ?_ _));refine blk_put (cs:=#[.int .i64 a0_0,.slice Ao16 t172.length co16,.slice Ao20 t175.length co20,.slice none 0 0,.slice none 0 0,.slice none 0 0]) ?_ 3 _ rfl;(with_reducible repeat (first | refine blk_drewN ?_ _ | refine blk_drew ?_ | refine blk_alloc ?_ _));refine blk_put (cs:=#[.int .i64 a0_0,.slice Ao16 t172.length co16,.slice none 0 0,.slice none 0 0,.slice none 0 0,.slice none 0 0]) ?_ 2 _ rfl;(with_reducible repeat (first | refine blk_drewN ?_ _ | refine blk_drew ?_ | refine blk_alloc ?_ _));refine blk_put (cs:=#[.int .i64 a0_0,.slice none 0 0,.slice none 0 0,.slice none 0 0,.slice none 0 0,.slice none 0 0]) ?_ 1 _ rfl;(with_reducible repeat (first | refine blk_drewN ?_ _ | refine blk_drew ?_ | refine blk_alloc ?_ _));refine blk_put (cs:=#[.int .i64 0,.slice none 0 0,.slice none 0 0,.slice none 0 0,.slice none 0 0,.slice none 0 0]) ?_ 0 _ rfl;(with_reducible repeat (first | refine blk_drewN ?_ _ | refine blk_drew ?_ | refine blk_alloc ?_ _));refine blk_far ?_ NB170_171.out _;(with_reducible repeat (first | refine blk_drewN ?_ _ | refine blk_drew ?_ | refine blk_alloc ?_ _));exact BK170.out) Try.underlying39 rfl (by kernel_rfl)) rfl ?_
 exact ⟨_,_,_,_,_,by first | rfl | (simp [errW_none,errW_some] <;> rfl) | (simp [*,errW_none,errW_some] <;> rfl),by (with_reducible repeat (first | apply Kd.R_alloc | apply Kd.R_drewN | apply Kd.R_drew));exact Kd.R_mono (Kd.R_far (p:=⟨gb170,5,none⟩) (Kd.R_far (p:=⟨gb170,4,none⟩) (Kd.R_far (p:=⟨gb170,3,none⟩) (Kd.R_far (p:=⟨gb170,2,none⟩) (Kd.R_far (p:=⟨gb170,1,none⟩) (Kd.R_far (p:=⟨gb170,0,none⟩) (Kd.R_far (p:=⟨gb171,5,none⟩) (Kd.R_types (Kd.R_types HO174.out BK171.out (by decide)) BK170.out (by decide)) (fun _ hk => hk.1.2) (.slice Ao32 t184.length co32)) (fun _ hk => hk.2) (.int .i64 a0_0)) (fun _ hk => hk.2) (.slice Ao16 t172.length co16)) (fun _ hk => hk.2) (.slice Ao20 t175.length co20)) (fun _ hk => hk.2) (.slice Ao24 t178.length co24)) (fun _ hk => hk.2) (.slice Ao28 t181.length co28)) (fun _ hk => hk.2) (.slice Ao32 t184.length co32)) (fun _ hk => ⟨hk.1.1.1.2,hk.1.1.2⟩),by (with_reducible repeat (first | apply Kd.R_alloc | apply Kd.R_drewN | apply Kd.R_drew));exact Kd.R_mono (Kd.R_far (p:=⟨gb170,5,none⟩) (Kd.R_far (p:=⟨gb170,4,none⟩) (Kd.R_far (p:=⟨gb170,3,none⟩) (Kd.R_far (p:=⟨gb170,2,none⟩) (Kd.R_far (p:=⟨gb170,1,none⟩) (Kd.R_far (p:=⟨gb170,0,none⟩) (Kd.R_far (p:=⟨gb171,5,none⟩) (Kd.R_types (Kd.R_types HO177.out BK171.out (by decide)) BK170.out (by decide)) (fun _ hk => hk.1.2) (.slice Ao32 t184.length co32)) (fun _ hk => hk.2) (.int .i64 a0_0)) (fun _ hk => hk.2) (.slice Ao16 t172.length co16)) (fun _ hk => hk.2) (.slice Ao20 t175.length co20)) (fun _ hk => hk.2) (.slice Ao24 t178.length co24)) (fun _ hk => hk.2) (.slice Ao28 t181.length co28)) (fun _ hk => hk.2) (.slice Ao32 t184.length co32)) (fun _ hk => ⟨hk.1.1.1.2,hk.1.1.2⟩),by (with_reducible repeat (first | apply Kd.R_alloc | apply Kd.R_drewN | apply Kd.R_drew));exact Kd.R_mono (Kd.R_far (p:=⟨gb170,5,none⟩) (Kd.R_far (p:=⟨gb170,4,none⟩) (Kd.R_far (p:=⟨gb170,3,none⟩) (Kd.R_far (p:=⟨gb170,2,none⟩) (Kd.R_far (p:=⟨gb170,1,none⟩) (Kd.R_far (p:=⟨gb170,0,none⟩) (Kd.R_far (p:=⟨gb171,5,none⟩) (Kd.R_types (Kd.R_types HO180.out BK171.out (by decide)) BK170.out (by decide)) (fun _ hk => hk.1.2) (.slice Ao32 t184.length co32)) (fun _ hk => hk.2) (.int .i64 a0_0)) (fun _ hk => hk.2) (.slice Ao16 t172.length co16)) (fun _ hk => hk.2) (.slice Ao20 t175.length co20)) (fun _ hk => hk.2) (.slice Ao24 t178.length co24)) (fun _ hk => hk.2) (.slice Ao28 t181.length co28)) (fun _ hk => hk.2) (.slice Ao32 t184.length co32)) (fun _ hk => ⟨hk.1.1.1.2,hk.1.1.2⟩),by (with_reducible repeat (first | apply Kd.R_alloc | apply Kd.R_drewN | apply Kd.R_drew));exact Kd.R_mono (Kd.R_far (p:=⟨gb170,5,none⟩) (Kd.R_far (p:=⟨gb170,4,none⟩) (Kd.R_far (p:=⟨gb170,3,none⟩) (Kd.R_far (p:=⟨gb170,2,none⟩) (Kd.R_far (p:=⟨gb170,1,none⟩) (Kd.R_far (p:=⟨gb170,0,none⟩) (Kd.R_far (p:=⟨gb171,5,none⟩) (Kd.R_types (Kd.R_types HO183.out BK171.out (by decide)) BK170.out (by decide)) (fun _ hk => hk.1.2) (.slice Ao32 t184.length co32)) (fun _ hk => hk.2) (.int .i64 a0_0)) (fun _ hk => hk.2) (.slice Ao16 t172.length co16)) (fun _ hk => hk.2) (.slice Ao20 t175.length co20)) (fun _ hk => hk.2) (.slice Ao24 t178.length co24)) (fun _ hk => hk.2) (.slice Ao28 t181.length co28)) (fun _ hk => hk.2) (.slice Ao32 t184.length co32)) (fun _ hk => trivial),by (with_reducible repeat (first | apply Kd.R_alloc | apply Kd.R_drewN | apply Kd.R_drew));exact Kd.R_mono (Kd.R_far (p:=⟨gb170,5,none⟩) (Kd.R_far (p:=⟨gb170,4,none⟩) (Kd.R_far (p:=⟨gb170,3,none⟩) (Kd.R_far (p:=⟨gb170,2,none⟩) (Kd.R_far (p:=⟨gb170,1,none⟩) (Kd.R_far (p:=⟨gb170,0,none⟩) (Kd.R_far (p:=⟨gb171,5,none⟩) (Kd.R_types (Kd.R_types HO186.out BK171.out (by decide)) BK170.out (by decide)) (fun _ hk => hk.1.2) (.slice Ao32 t184.length co32)) (fun _ hk => hk.2) (.int .i64 a0_0)) (fun _ hk => hk.2) (.slice Ao16 t172.length co16)) (fun _ hk => hk.2) (.slice Ao20 t175.length co20)) (fun _ hk => hk.2) (.slice Ao24 t178.length co24)) (fun _ hk => hk.2) (.slice Ao28 t181.length co28)) (fun _ hk => hk.2) (.slice Ao32 t184.length co32)) (fun _ hk => trivial),by repeat (first | (with_reducible first | exact HB.out | apply below_alloc | apply pw_below_drewN | apply below_drew1 | refine below_set ?_ GE169.out | refine below_set ?_ GE170.out | refine below_set ?_ GE171.out) | exact HB.out)⟩

/-! ### laws_toFuncS: function 50 -/
def laws_toFuncS.l0 : Nat → List (S91) → List (S39) → Int → Option ((List (S39)))
 | 0,_,_,_ => none
 | k + 1,x0,x3,x4 => if x4 < (x0.length : Int) then (if 0 ≤ x4 then ((laws_toFunc.f k ((rd_T91 x0 x4).f0) ((rd_T91 x0 x4).f1) ((rd_T91 x0 x4).f2) ((rd_T91 x0 x4).f3) ((rd_T91 x0 x4).f4) ((rd_T91 x0 x4).f5)).bind fun bt191 => (if x4 < (x3.length : Int) then (laws_toFuncS.l0 k x0 (x3.set (x4 : Int).toNat (⟨bt191.1,bt191.2.1,bt191.2.2.1,bt191.2.2.2.1,bt191.2.2.2.2.1,bt191.2.2.2.2.2⟩ : S39)) (wrap64 (x4 + 1))) else (none))) else (none)) else (some x3)
def laws_toFuncS.f (k : Nat) (l0 : List (S91)) : Option ((List (S39))):=if 0 ≤ (l0.length : Int) then (if ((l0.length : Int) : Int).toNat ≤ 2199023255552 then (laws_toFuncS.l0 k l0 (List.replicate ((l0.length : Int) : Int).toNat z39) 0) else (none)) else (none)
theorem laws_toFuncS.mono_l : ∀ k,(∀ y0 y1 y2,LeO (laws_toFuncS.l0 k y0 y1 y2) (laws_toFuncS.l0 (k + 1) y0 y1 y2))
 | 0 => fun _ _ _ r h => by simp [laws_toFuncS.l0] at h
 | k + 1 => by
  have ih0:=laws_toFuncS.mono_l k
  ·intro y0 y1 y2
   unfold laws_toFuncS.l0
   repeat' first
   | (with_reducible exact ih0 _ _ _)
   | (with_reducible exact laws_toFunc.mono _ _ _ _ _ _ _)
   | (with_reducible exact LeO.refl _)
   | (with_reducible exact LeO.none _)
   | (with_reducible refine LeO.ite ?_ ?_)
   | (with_reducible refine LeO.bind ?_ (fun _ => ?_))
   | exact ih0 _ _ _
   | exact laws_toFunc.mono _ _ _ _ _ _ _
   | exact LeO.none _
   | refine LeO.ite ?_ ?_
   | refine LeO.bind ?_ (fun _ => ?_)
theorem laws_toFuncS.mono : ∀ a0 k,LeO (laws_toFuncS.f k a0) (laws_toFuncS.f (k + 1) a0):=by
 intro a0 k
 have ih0:=laws_toFuncS.mono_l k
 unfold laws_toFuncS.f
 repeat' first
   | (with_reducible exact ih0 _ _ _)
   | (with_reducible exact laws_toFunc.mono _ _ _ _ _ _ _)
   | (with_reducible exact LeO.refl _)
   | (with_reducible exact LeO.none _)
   | (with_reducible refine LeO.ite ?_ ?_)
   | (with_reducible refine LeO.bind ?_ (fun _ => ?_))
   | exact ih0 _ _ _
   | exact laws_toFunc.mono _ _ _ _ _ _ _
   | exact LeO.none _
   | refine LeO.ite ?_ ?_
   | refine LeO.bind ?_ (fun _ => ?_)
set_option maxHeartbeats 8000000 in
set_option maxRecDepth 100000 in
theorem laws_toFuncS.calls (k : Nat) (A0 : Option Addr) (c0 : Nat) (l0 : List (S91)) (r : List (S39)) (w : World) (hr0 : Kd.C k91 w A0 l0.length l0) (hc0 : l0.length ≤ c0) (h : laws_toFuncS.f k l0 = some r) :
  Calls Try.prog 50 #[.slice A0 l0.length c0] w fun e w' => ∃ v0_ : Value,e = .returned (v0_) ∧ Kd.S k39 39 w' w.heap.size (fun _ => True) v0_ r ∧ Below w.heap.size w w':=by
 have hu91:=Try.underlying91
 have hu39:=Try.underlying39
 have HR0:=Aside0.mk hr0
 have HC0:=Aside0.mk hc0
 clear hr0 hc0
 have HB:=Aside0.mk (Below.refl w.heap.size w)
 have H : (if 0 ≤ (l0.length : Int) then (if ((l0.length : Int) : Int).toNat ≤ 2199023255552 then (laws_toFuncS.l0 k l0 (List.replicate ((l0.length : Int) : Int).toNat z39) 0) else (none)) else (none)) = some r:=h
 clear h
 by_cases c2 : 0 ≤ (l0.length : Int)
 ·rw [if_pos c2] at H
  have c2b0:=eq_true c2
  have c2b1 : decide (0 ≤ (l0.length : Int)) = true:=decide_eq_true c2
  clear c2
  by_cases c3 : ((l0.length : Int) : Int).toNat ≤ 2199023255552
  ·rw [if_pos c3] at H
   have c3b0:=eq_true c3
   have c3b1 : decide (((l0.length : Int) : Int).toNat ≤ 2199023255552) = true:=decide_eq_true c3
   clear c3
   obtain ⟨y187,hy187⟩ : ∃ y_ : List (S39),y_ = (List.replicate ((l0.length : Int) : Int).toNat z39):=⟨_,rfl⟩
   replace H : (laws_toFuncS.l0 k l0 y187 0) = some r:=by first | (rw [hy187];with_reducible exact H) | (have H2_:=(Option.bind_some _ _).symm.trans H;rw [hy187];with_reducible exact H2_) | (have H2_:=(Option.bind_some _ _).symm.trans H;with_reducible exact H2_) | with_reducible exact H | (rw [hy187];exact H) | exact H
   have Ny187:=Aside0.mk hy187
   clear hy187
   have H':=Aside0.mk H
   clear H
   go_enter Try.func50,Try.ntmps50
   go_wp2_with (first | ((with_reducible refine gate_dst (N:=7) rfl ?_);refine Kd.S_make k39 _ 39 rfl (N:=7) rfl 53 _ _ rfl (l0.length : Int) rfl rfl Try.underlying53 (.agg #[(.int .i64 0),(.slice none 0 0),(.slice none 0 0),(.slice none 0 0),(.slice none 0 0),(.slice none 0 0)]) 128 info39 rfl (by decide) (by omega) z39 (ok:=fun _ => True) (okp:=fun _ => True) (k39_mkM _ _ _ z39 (Kd.R_nil _ _ _ _ _) (Kd.R_nil _ _ _ _ _) (Kd.R_nil _ _ _ _ _) (Kd.R_nil _ _ _ _ _) (Kd.R_nil _ _ _ _ _)) (fun _ hk => hk) trivial (of_decide_eq_true (by first | (with_reducible assumption) | assumption)) (Nat.le_trans (Nat.mul_le_mul_right _ (of_decide_eq_true (by first | (with_reducible assumption) | assumption) : (l0.length : Int).toNat ≤ 2199023255552)) (by omega)) (Below.refl _ _) (Nat.le_refl _) ?_;intro v188 w4 ho5 hb hg_ hnew_;clear hg_ hnew_;(first | rw [← Ny187.out] at ho5 | (simp only [Int.reduceToNat] at ho5;rw [← Ny187.out] at ho5));have n0_:=Aside0.mk (Kd.S_lower ho5 (below_size (Up.Bup HB)));have n1_:=Up.BB HB hb;clear HB;have HO189:=n0_;have HB:=n1_;clear n0_ n1_;clear hb ho5))
   go_loopg [4] k (fun kq v4 w' => ∃ (x3_1 : List (S39)) (x4_1 : Int),v4 = .int .i64 x4_1 ∧ Aside0 (laws_toFuncS.l0 kq l0 x3_1 x4_1 = some r) ∧ Aside0 (kq ≤ k) ∧ Aside0 (Kd.S k39 39 w' w.heap.size (fun _ => True) v188 x3_1) ∧ Aside0 (Below w.heap.size w w'))
   case atStart => exact ⟨(y187),(0),(by first | rfl | (simp;done) | (simp [*];done)),H',⟨Nat.le_refl _⟩,⟨Up.Sup HO189⟩,⟨Up.Bup HB⟩⟩
   case round =>
    clear H'
    try clear c2
    try clear c2b0
    try clear c2b1
    try clear p2
    try clear c3
    try clear c3b0
    try clear c3b1
    try clear c5
    obtain ⟨x3_1,x4_1,rfl,HA,HK1,HO_3,HB⟩:=hrel
    cases gk with
    | zero => exact absurd HA.out (by simp [laws_toFuncS.l0])
    | succ k1 =>
     have H:=HA.out
     clear HA
     simp only [laws_toFuncS.l0] at H
     by_cases c6 : x4_1 < (l0.length : Int)
     ·rw [if_pos c6] at H
      have c6b0 : decide (x4_1 < (l0.length : Int)) = true:=decide_eq_true c6
      clear c6
      by_cases c7 : 0 ≤ x4_1
      ·rw [if_pos c7] at H
       have c7b0 : decide (0 ≤ x4_1) = true:=decide_eq_true c7
       clear c7
       replace H:=Option.bind_eq_some_iff.mp H
       obtain ⟨⟨t191,t192,t195,t198,t201,t204⟩,A80,H⟩:=H
       replace H : (if x4_1 < (x3_1.length : Int) then (laws_toFuncS.l0 k1 l0 (x3_1.set (x4_1 : Int).toNat (⟨t191,t192,t195,t198,t201,t204⟩ : S39)) (wrap64 (x4_1 + 1))) else (none)) = some r:=H
       have A8:=Aside0.mk A80
       clear A80
       by_cases c9 : x4_1 < (x3_1.length : Int)
       ·rw [if_pos c9] at H
        have c9b0 : decide (x4_1 < (x3_1.length : Int)) = true:=decide_eq_true c9
        clear c9
        obtain ⟨y207,hy207⟩ : ∃ y_ : List (S39),y_ = (x3_1.set (x4_1 : Int).toNat (⟨t191,t192,t195,t198,t201,t204⟩ : S39)):=⟨_,rfl⟩
        replace H : (laws_toFuncS.l0 k1 l0 y207 (wrap64 (x4_1 + 1))) = some r:=by first | (rw [hy207];with_reducible exact H) | (have H2_:=(Option.bind_some _ _).symm.trans H;rw [hy207];with_reducible exact H2_) | (have H2_:=(Option.bind_some _ _).symm.trans H;with_reducible exact H2_) | with_reducible exact H | (rw [hy207];exact H) | exact H
        have Ny207:=Aside0.mk hy207
        clear hy207
        have H':=Aside0.mk H
        clear H
        have p190 : 0 ≤ (x4_1 : Int):=of_decide_eq_true (by first | (with_reducible assumption) | assumption)
        have q190 : x4_1 < (l0.length : Int):=of_decide_eq_true (by first | (with_reducible assumption) | assumption)
        obtain ⟨ad190,A190_1,c190_1,A190_2,c190_2,A190_3,c190_3,A190_4,c190_4,A190_5,c190_5,e190,hx190_0,hx190_1,hx190_2,hx190_3,hx190_4,hx190_5,hl190_1,hi190_1,hl190_2,hi190_2,hl190_3,hi190_3,hl190_4,hi190_4,hl190_5,hi190_5⟩:=at_T91 HR0.out x4_1 p190 q190
        cases e190
        replace hx190_0:=(HB.out.cell (World.block_lt_of_cell? w _ hx190_0)).trans hx190_0
        replace hx190_1:=(HB.out.cell (World.block_lt_of_cell? w _ hx190_1)).trans hx190_1
        replace hx190_2:=(HB.out.cell (World.block_lt_of_cell? w _ hx190_2)).trans hx190_2
        replace hx190_3:=(HB.out.cell (World.block_lt_of_cell? w _ hx190_3)).trans hx190_3
        replace hx190_4:=(HB.out.cell (World.block_lt_of_cell? w _ hx190_4)).trans hx190_4
        replace hx190_5:=(HB.out.cell (World.block_lt_of_cell? w _ hx190_5)).trans hx190_5
        have HR190_1:=Aside0.mk hi190_1
        have HC190_1:=Aside0.mk hl190_1
        clear hi190_1 hl190_1
        have HR190_2:=Aside0.mk hi190_2
        have HC190_2:=Aside0.mk hl190_2
        clear hi190_2 hl190_2
        have HR190_3:=Aside0.mk hi190_3
        have HC190_3:=Aside0.mk hl190_3
        clear hi190_3 hl190_3
        have HR190_4:=Aside0.mk hi190_4
        have HC190_4:=Aside0.mk hl190_4
        clear hi190_4 hl190_4
        have HR190_5:=Aside0.mk hi190_5
        have HC190_5:=Aside0.mk hl190_5
        clear hi190_5 hl190_5
        replace p190:=eq_true p190
        replace q190:=eq_true q190
        go_wp2_with (first | ((with_reducible refine gate_callee (f:=64) rfl ?_);refine goesL_ (some 20) rfl rfl Try.func64 (by kernel_rfl) rfl #[.agg #[.int .i64 ((rd_T91 l0 x4_1).f0),.slice A190_1 ((rd_T91 l0 x4_1).f1).length c190_1,.slice A190_2 ((rd_T91 l0 x4_1).f2).length c190_2,.slice A190_3 ((rd_T91 l0 x4_1).f3).length c190_3,.slice A190_4 ((rd_T91 l0 x4_1).f4).length c190_4,.slice A190_5 ((rd_T91 l0 x4_1).f5).length c190_5]] rfl (by (try simp only [List.map_toArray,List.map_cons,List.map_nil]);first | done | rfl | (simp only [List.length_drop,List.length_take];rfl)) ?_;(with_reducible refine (laws_toFunc.calls k1 ((rd_T91 l0 x4_1).f0) _ _ ((rd_T91 l0 x4_1).f1) _ _ ((rd_T91 l0 x4_1).f2) _ _ ((rd_T91 l0 x4_1).f3) _ _ ((rd_T91 l0 x4_1).f4) _ _ ((rd_T91 l0 x4_1).f5) t191 t192 t195 t198 t201 t204 _ ?side1 ?side2 ?side3 ?side4 ?side5 ?side6 ?side7 ?side8 ?side9 ?side10 A8.out).mono ?_);(case side1 => repeat (first | exact (Kd.C_below HR190_1.out HB.out) | (with_reducible refine Kd.C_alloc ?_ _) | (with_reducible refine Kd.C_drewN ?_ _) | (with_reducible refine Kd.C_drew ?_)));(case side2 => exact HC190_1.out);(case side3 => repeat (first | exact (Kd.C_below HR190_2.out HB.out) | (with_reducible refine Kd.C_alloc ?_ _) | (with_reducible refine Kd.C_drewN ?_ _) | (with_reducible refine Kd.C_drew ?_)));(case side4 => exact HC190_2.out);(case side5 => repeat (first | exact (Kd.C_below HR190_3.out HB.out) | (with_reducible refine Kd.C_alloc ?_ _) | (with_reducible refine Kd.C_drewN ?_ _) | (with_reducible refine Kd.C_drew ?_)));(case side6 => exact HC190_3.out);(case side7 => repeat (first | exact (Kd.C_below HR190_4.out HB.out) | (with_reducible refine Kd.C_alloc ?_ _) | (with_reducible refine Kd.C_drewN ?_ _) | (with_reducible refine Kd.C_drew ?_)));(case side8 => exact HC190_4.out);(case side9 => repeat (first | exact (Kd.C_below HR190_5.out HB.out) | (with_reducible refine Kd.C_alloc ?_ _) | (with_reducible refine Kd.C_drewN ?_ _) | (with_reducible refine Kd.C_drew ?_)));(case side10 => exact HC190_5.out);rintro e w11 ⟨v193,v196,v199,v202,v205,rfl,ho0,ho1,ho2,ho3,ho4,hb⟩;refine ⟨_,rfl,?_⟩;have n0_:=Aside0.mk (Kd.S_mono (Kd.S_told (Kd.S_told (Kd.S_told (Kd.S_told (Kd.S_told (Kd.S_old (Up.Sup HO_3) hb) (Kd.R_base ho0)) (Kd.R_base ho1)) (Kd.R_base ho2)) (Kd.R_base ho3)) (Kd.R_base ho4)) (fun _ h_ => h_.1));have n1_:=Aside0.mk (Kd.R_lower ho0 (below_size (Up.Bup HB)));have n2_:=Aside0.mk (Kd.R_lower ho1 (below_size (Up.Bup HB)));have n3_:=Aside0.mk (Kd.R_lower ho2 (below_size (Up.Bup HB)));have n4_:=Aside0.mk (Kd.R_lower ho3 (below_size (Up.Bup HB)));have n5_:=Aside0.mk (Kd.R_lower ho4 (below_size (Up.Bup HB)));have n6_:=Up.BB HB hb;clear HO_3;clear HB;have HO_3:=n0_;have HO194:=n1_;have HO197:=n2_;have HO200:=n3_;have HO203:=n4_;have HO206:=n5_;have HB:=n6_;clear n0_ n1_ n2_ n3_ n4_ n5_ n6_;(try clear hb);(try clear hb2);(try clear hk);(try clear hi);(try clear ho0);(try clear ho1);(try clear ho2);(try clear ho3);(try clear ho4);(have hsvv193_ : ∀ (a_ : Addr) (m_ : Mode) (W_ : World),(Go.store a_ v193 m_).run Try.prog W_ = stored Try.prog W_ a_ v193 m_:=fun a_ m_ W_ => run_store _ W_ a_ _ m_ (by first | (obtain ⟨_,_,e_⟩:=Kd.R_slice HO194.out;rw [e_];rfl) | (obtain ⟨_,_,e_⟩:=Kd.R_slice (Kd.S_R HO194.out);rw [e_];rfl)));(have hcvv193_ : (v193 : Value).cells = #[v193]:=(by first | (obtain ⟨_,_,e_⟩:=Kd.R_slice HO194.out;rw [e_];rfl) | (obtain ⟨_,_,e_⟩:=Kd.R_slice (Kd.S_R HO194.out);rw [e_];rfl)));(have hsvv196_ : ∀ (a_ : Addr) (m_ : Mode) (W_ : World),(Go.store a_ v196 m_).run Try.prog W_ = stored Try.prog W_ a_ v196 m_:=fun a_ m_ W_ => run_store _ W_ a_ _ m_ (by first | (obtain ⟨_,_,e_⟩:=Kd.R_slice HO197.out;rw [e_];rfl) | (obtain ⟨_,_,e_⟩:=Kd.R_slice (Kd.S_R HO197.out);rw [e_];rfl)));(have hcvv196_ : (v196 : Value).cells = #[v196]:=(by first | (obtain ⟨_,_,e_⟩:=Kd.R_slice HO197.out;rw [e_];rfl) | (obtain ⟨_,_,e_⟩:=Kd.R_slice (Kd.S_R HO197.out);rw [e_];rfl)));(have hsvv199_ : ∀ (a_ : Addr) (m_ : Mode) (W_ : World),(Go.store a_ v199 m_).run Try.prog W_ = stored Try.prog W_ a_ v199 m_:=fun a_ m_ W_ => run_store _ W_ a_ _ m_ (by first | (obtain ⟨_,_,e_⟩:=Kd.R_slice HO200.out;rw [e_];rfl) | (obtain ⟨_,_,e_⟩:=Kd.R_slice (Kd.S_R HO200.out);rw [e_];rfl)));(have hcvv199_ : (v199 : Value).cells = #[v199]:=(by first | (obtain ⟨_,_,e_⟩:=Kd.R_slice HO200.out;rw [e_];rfl) | (obtain ⟨_,_,e_⟩:=Kd.R_slice (Kd.S_R HO200.out);rw [e_];rfl)));(have hsvv202_ : ∀ (a_ : Addr) (m_ : Mode) (W_ : World),(Go.store a_ v202 m_).run Try.prog W_ = stored Try.prog W_ a_ v202 m_:=fun a_ m_ W_ => run_store _ W_ a_ _ m_ (by first | (obtain ⟨_,_,e_⟩:=Kd.R_slice HO203.out;rw [e_];rfl) | (obtain ⟨_,_,e_⟩:=Kd.R_slice (Kd.S_R HO203.out);rw [e_];rfl)));(have hcvv202_ : (v202 : Value).cells = #[v202]:=(by first | (obtain ⟨_,_,e_⟩:=Kd.R_slice HO203.out;rw [e_];rfl) | (obtain ⟨_,_,e_⟩:=Kd.R_slice (Kd.S_R HO203.out);rw [e_];rfl)));(have hsvv205_ : ∀ (a_ : Addr) (m_ : Mode) (W_ : World),(Go.store a_ v205 m_).run Try.prog W_ = stored Try.prog W_ a_ v205 m_:=fun a_ m_ W_ => run_store _ W_ a_ _ m_ (by first | (obtain ⟨_,_,e_⟩:=Kd.R_slice HO206.out;rw [e_];rfl) | (obtain ⟨_,_,e_⟩:=Kd.R_slice (Kd.S_R HO206.out);rw [e_];rfl)));(have hcvv205_ : (v205 : Value).cells = #[v205]:=(by first | (obtain ⟨_,_,e_⟩:=Kd.R_slice HO206.out;rw [e_];rfl) | (obtain ⟨_,_,e_⟩:=Kd.R_slice (Kd.S_R HO206.out);rw [e_];rfl)));have p10 : 0 ≤ (x4_1 : Int):=of_decide_eq_true (by first | (with_reducible assumption) | assumption);have q10 : (x4_1 : Int) < ((x3_1.length : Int) : Int):=of_decide_eq_true (by first | (with_reducible assumption) | assumption);obtain ⟨go10,co10,eo10,gb10,gl10,cl10,HG10⟩:=Kd.S_form HO_3.out (by omega);(first | cases eo10 | (injection eo10 with ea_ en_ ec_;(first | subst ea_ | (injection ea_ with ea_;subst ea_));subst ec_;clear en_));have GB10:=Aside0.mk gb10;have GG10:=Aside0.mk HG10;clear gb10 gl10 HG10;obtain ⟨_,ce10,hcl10,hM10,hcc10,hfr10,_,_⟩:=Kd.S_elem HO_3.out z39 (x4_1 : Int) p10 q10;obtain ⟨ve10_1,ve10_2,ve10_3,ve10_4,ve10_5,rfl,ge10_1,ge10_2,ge10_3,ge10_4,ge10_5⟩:=k39_openM hM10;have hx10_0 : w11.cell? ⟨go10,(x4_1 : Int).toNat * 6,none⟩ = some (.int .i64 ((rd_T39 x3_1 x4_1).f0)):=hcc10 0 _ rfl;have hx10_1 : w11.cell? ⟨go10,(x4_1 : Int).toNat * 6 + 1,none⟩ = some (ve10_1):=hcc10 1 _ rfl;have hx10_2 : w11.cell? ⟨go10,(x4_1 : Int).toNat * 6 + 2,none⟩ = some (ve10_2):=hcc10 2 _ rfl;have hx10_3 : w11.cell? ⟨go10,(x4_1 : Int).toNat * 6 + 3,none⟩ = some (ve10_3):=hcc10 3 _ rfl;have hx10_4 : w11.cell? ⟨go10,(x4_1 : Int).toNat * 6 + 4,none⟩ = some (ve10_4):=hcc10 4 _ rfl;have hx10_5 : w11.cell? ⟨go10,(x4_1 : Int).toNat * 6 + 5,none⟩ = some (ve10_5):=hcc10 5 _ rfl;have hf10_0 : w11.frozen? ⟨go10,(x4_1 : Int).toNat * 6,none⟩ = false:=hfr10 0;have hf10_1 : w11.frozen? ⟨go10,(x4_1 : Int).toNat * 6 + 1,none⟩ = false:=hfr10 1;have hf10_2 : w11.frozen? ⟨go10,(x4_1 : Int).toNat * 6 + 2,none⟩ = false:=hfr10 2;have hf10_3 : w11.frozen? ⟨go10,(x4_1 : Int).toNat * 6 + 3,none⟩ = false:=hfr10 3;have hf10_4 : w11.frozen? ⟨go10,(x4_1 : Int).toNat * 6 + 4,none⟩ = false:=hfr10 4;have hf10_5 : w11.frozen? ⟨go10,(x4_1 : Int).toNat * 6 + 5,none⟩ = false:=hfr10 5;clear hcl10 hcc10 hfr10 hM10;replace p10:=eq_true p10;replace q10:=eq_true q10;have n_:=Aside0.mk (Kd.S_mono (ok':=(fun k_ => some k_ ≠ (v193 : Value).ownBlock ∧ some k_ ≠ (v196 : Value).ownBlock ∧ some k_ ≠ (v199 : Value).ownBlock ∧ some k_ ≠ (v202 : Value).ownBlock ∧ some k_ ≠ (v205 : Value).ownBlock)) HO_3.out (fun k_ hk => ⟨hk.1.1.1.1.2,⟨hk.1.1.1.2,⟨hk.1.1.2,⟨hk.1.2,hk.2⟩⟩⟩⟩));clear HO_3;have HO_3:=n_;clear n_;have HX12:=Aside0.mk (show Kd.S k39 39 w11 w.heap.size (fun k_ => ((fun _ => True)) k_ ∧ ¬ ((fun k_ => some k_ = (v193 : Value).ownBlock ∨ some k_ = (v196 : Value).ownBlock ∨ some k_ = (v199 : Value).ownBlock ∨ some k_ = (v202 : Value).ownBlock ∨ some k_ = (v205 : Value).ownBlock)) k_) (.slice (some ⟨go10,0,none⟩) x3_1.length co10) x3_1 from (Up.Sq (Kd.S_mono HO_3.out (fun k_ hk => ⟨trivial,fun e_ => e_.elim (fun h_ => hk.1 h_) (fun h_ => h_.elim (fun h_ => hk.2.1 h_) (fun h_ => h_.elim (fun h_ => hk.2.2.1 h_) (fun h_ => h_.elim (fun h_ => hk.2.2.2.1 h_) (fun h_ => hk.2.2.2.2 h_))))⟩))));obtain ⟨oki12,ce12,hcl12,hM12,hcc12,hfr12,hoki12,hH12⟩:=Kd.S_elem HX12.out z39 (x4_1 : Int) (of_decide_eq_true (by first | (with_reducible assumption) | assumption)) (by have h_ : (x4_1 : Int) < ((x3_1.length : Int) : Int):=of_decide_eq_true (by first | (with_reducible assumption) | assumption);first | exact h_ | (have e_:=(Kd.S_reads' HO_3.out).1;omega) | simpa using h_);obtain ⟨ve12_1,ve12_2,ve12_3,ve12_4,ve12_5,rfl,ge12_1,ge12_2,ge12_3,ge12_4,ge12_5⟩:=k39_openM hM12;have HP12:=Kd.S_seg hH12 (of_decide_eq_true (by first | (with_reducible assumption) | assumption)) (by have h_ : (x4_1 : Int) < ((x3_1.length : Int) : Int):=of_decide_eq_true (by first | (with_reducible assumption) | assumption);first | exact h_ | (have e_:=(Kd.S_reads' HO_3.out).1;omega) | simpa using h_) (seg:=[.int .i64 t191,v193,v196,v199,v202,v205]) (j:=0) (show 6 ≤ 6 from by decide) (x':=(⟨t191,t192,t195,t198,t201,t204⟩ : S39)) (k39_mkM _ _ _ (⟨t191,t192,t195,t198,t201,t204⟩ : S39) (Kd.R_mono (Kd.R_tight rfl (Kd.R_mono (ok':=fun k_ => ((fun _ => True)) k_ ∧ k_ ≠ go10) (Kd.R_apart' (HO194.out) (Kd.S_typed HO_3.out) (by decide)) (fun k_ hk => ⟨trivial,fun e_ => (hk.2) (by rw [e_];rfl)⟩))) (fun _ h_ => Or.inr (Or.inl h_))) (Kd.R_mono (Kd.R_tight rfl (Kd.R_mono (ok':=fun k_ => ((fun _ => True)) k_ ∧ k_ ≠ go10) (Kd.R_apart' (HO197.out) (Kd.S_typed HO_3.out) (by decide)) (fun k_ hk => ⟨trivial,fun e_ => (hk.2) (by rw [e_];rfl)⟩))) (fun _ h_ => Or.inr (Or.inr (Or.inl h_)))) (Kd.R_mono (Kd.R_tight rfl (Kd.R_mono (ok':=fun k_ => ((fun _ => True)) k_ ∧ k_ ≠ go10) (Kd.R_apart' (HO200.out) (Kd.S_typed HO_3.out) (by decide)) (fun k_ hk => ⟨trivial,fun e_ => (hk.2) (by rw [e_];rfl)⟩))) (fun _ h_ => Or.inr (Or.inr (Or.inr (Or.inl h_))))) (Kd.R_mono (Kd.R_tight rfl (Kd.R_mono (ok':=fun k_ => ((fun _ => True)) k_ ∧ k_ ≠ go10) (Kd.R_apart' (HO203.out) (Kd.S_typed HO_3.out) (by decide)) (fun k_ hk => ⟨trivial,fun e_ => (hk.2) (by rw [e_];rfl)⟩))) (fun _ h_ => Or.inr (Or.inr (Or.inr (Or.inr (Or.inl h_)))))) (Kd.R_mono (Kd.R_tight rfl (Kd.R_mono (ok':=fun k_ => ((fun _ => True)) k_ ∧ k_ ≠ go10) (Kd.R_apart' (HO206.out) (Kd.S_typed HO_3.out) (by decide)) (fun k_ hk => ⟨trivial,fun e_ => (hk.2) (by rw [e_];rfl)⟩))) (fun _ h_ => Or.inr (Or.inr (Or.inr (Or.inr (Or.inr (h_)))))))) (fun _ hk => hk) (fun k_ hk_ => hk_.elim (fun h_ => ((Kd.R_mono (ok':=fun k_ => ((fun _ => True)) k_ ∧ k_ ≠ go10) (Kd.R_apart' (HO194.out) (Kd.S_typed HO_3.out) (by decide)) (fun k_ hk => ⟨trivial,fun e_ => (hk.2) (by rw [e_];rfl)⟩))).1 k_ h_.symm) (fun h_ => h_.elim (fun h_ => ((Kd.R_mono (ok':=fun k_ => ((fun _ => True)) k_ ∧ k_ ≠ go10) (Kd.R_apart' (HO197.out) (Kd.S_typed HO_3.out) (by decide)) (fun k_ hk => ⟨trivial,fun e_ => (hk.2) (by rw [e_];rfl)⟩))).1 k_ h_.symm) (fun h_ => h_.elim (fun h_ => ((Kd.R_mono (ok':=fun k_ => ((fun _ => True)) k_ ∧ k_ ≠ go10) (Kd.R_apart' (HO200.out) (Kd.S_typed HO_3.out) (by decide)) (fun k_ hk => ⟨trivial,fun e_ => (hk.2) (by rw [e_];rfl)⟩))).1 k_ h_.symm) (fun h_ => h_.elim (fun h_ => ((Kd.R_mono (ok':=fun k_ => ((fun _ => True)) k_ ∧ k_ ≠ go10) (Kd.R_apart' (HO203.out) (Kd.S_typed HO_3.out) (by decide)) (fun k_ hk => ⟨trivial,fun e_ => (hk.2) (by rw [e_];rfl)⟩))).1 k_ h_.symm) (fun h_ => ((Kd.R_mono (ok':=fun k_ => ((fun _ => True)) k_ ∧ k_ ≠ go10) (Kd.R_apart' (HO206.out) (Kd.S_typed HO_3.out) (by decide)) (fun k_ hk => ⟨trivial,fun e_ => (hk.2) (by rw [e_];rfl)⟩))).1 k_ h_.symm)))));have hx12_0:=hcc12 0 _ rfl;(try simp only [show (k39).sz = 6 from rfl,Nat.mul_one,Nat.add_zero] at hx12_0);have hf12_0:=hfr12 0;(try simp only [show (k39).sz = 6 from rfl,Nat.mul_one,Nat.add_zero] at hf12_0);have hx12_1:=hcc12 1 _ rfl;(try simp only [show (k39).sz = 6 from rfl,Nat.mul_one,Nat.add_zero] at hx12_1);have hf12_1:=hfr12 1;(try simp only [show (k39).sz = 6 from rfl,Nat.mul_one,Nat.add_zero] at hf12_1);have hx12_2:=hcc12 2 _ rfl;(try simp only [show (k39).sz = 6 from rfl,Nat.mul_one,Nat.add_zero] at hx12_2);have hf12_2:=hfr12 2;(try simp only [show (k39).sz = 6 from rfl,Nat.mul_one,Nat.add_zero] at hf12_2);have hx12_3:=hcc12 3 _ rfl;(try simp only [show (k39).sz = 6 from rfl,Nat.mul_one,Nat.add_zero] at hx12_3);have hf12_3:=hfr12 3;(try simp only [show (k39).sz = 6 from rfl,Nat.mul_one,Nat.add_zero] at hf12_3);have hx12_4:=hcc12 4 _ rfl;(try simp only [show (k39).sz = 6 from rfl,Nat.mul_one,Nat.add_zero] at hx12_4);have hf12_4:=hfr12 4;(try simp only [show (k39).sz = 6 from rfl,Nat.mul_one,Nat.add_zero] at hf12_4);have hx12_5:=hcc12 5 _ rfl;(try simp only [show (k39).sz = 6 from rfl,Nat.mul_one,Nat.add_zero] at hx12_5);have hf12_5:=hfr12 5;(try simp only [show (k39).sz = 6 from rfl,Nat.mul_one,Nat.add_zero] at hf12_5);clear hcl12 hcc12 hfr12 hM12 hoki12 hH12) | ((with_reducible refine gate_store (t:=39) (p:=21) rfl ?_);refine store_event (t:=39) (p:=21) (v:=?vo_w13) (w1:=((((((w11.setCell ⟨go10,(x4_1 : Int).toNat * 6,none⟩ (.int .i64 t191)).setCell ⟨go10,(x4_1 : Int).toNat * 6 + 1,none⟩ (v193)).setCell ⟨go10,(x4_1 : Int).toNat * 6 + 2,none⟩ (v196)).setCell ⟨go10,(x4_1 : Int).toNat * 6 + 3,none⟩ (v199)).setCell ⟨go10,(x4_1 : Int).toNat * 6 + 4,none⟩ (v202)).setCell ⟨go10,(x4_1 : Int).toNat * 6 + 5,none⟩ (v205))) ?hg ?ho ?hn ?hr ?_;(case ho => rfl);(case hg => rfl);(case hn => rfl);(case hr => first | (go_simp;done) | (go_simp;rfl));intro w13 hw;have hg : w11.grownBy w13 (some go10):=(by rw [hw];exact HP12.2);have hp_ : Kd.S k39 39 w13 w.heap.size (fun _ => True) (.slice (some ⟨go10,0,none⟩) x3_1.length co10) y207:=(by rw [hw,Ny207.out];exact HP12.1);clear HP12;have n0_:=Aside0.mk (hp_);have n1_:=Aside0.mk ((by rw [hw];exact below_set (below_set (below_set (below_set (below_set (below_set (HB.out) GB10.out) GB10.out) GB10.out) GB10.out) GB10.out) GB10.out : Below w.heap.size w w13));clear HO_3;clear HB;clear HO194;clear HO197;clear HO200;clear HO203;clear HO206;have HO_3:=n0_;have HB:=n1_;clear n0_ n1_;clear hg hw hp_))
        go_roundg k1
        case measure => have:=HK1.out;omega
        case rel => exact ⟨(y207),(wrap64 (x4_1 + 1)),(by first | rfl | (simp;done) | (simp [*];done)),H',⟨by have:=HK1.out;omega⟩,⟨Up.Sup HO_3⟩,⟨Up.Bup HB⟩⟩
       ·rw [if_neg c9] at H
        exact absurd H (by simp)
      ·rw [if_neg c7] at H
       exact absurd H (by simp)
     ·rw [if_neg c6] at H
      have c6b0 : decide (x4_1 < (l0.length : Int)) = false:=decide_eq_false c6
      clear c6
      obtain rfl:=Option.some.inj H
      go_wp2
      go_ret
      exact ⟨_,by first | rfl | (simp [errW_none,errW_some] <;> rfl) | (simp [*,errW_none,errW_some] <;> rfl),Up.Sup HO_3,Up.Bup HB⟩
  ·rw [if_neg c3] at H
   exact absurd H (by simp)
 ·rw [if_neg c2] at H
  exact absurd H (by simp)

/-! ### laws_toModule: function 26 -/
def laws_toModule.f (k : Nat) (l0_0 : List (S87)) (l0_1 : List (S91)) (l0_2 : List Int) : Option ((List (S60)) × (List (S39)) × List Int):=(laws_toRecordS.f k l0_0).bind fun t211 => ((laws_toFuncS.f k l0_1).bind fun t214 => ((laws_toIntS.f k l0_2).bind fun t217 => (some (t211,t214,t217))))
theorem laws_toModule.mono : ∀ a0 a1 a2 k,LeO (laws_toModule.f k a0 a1 a2) (laws_toModule.f (k + 1) a0 a1 a2):=by
 intro a0 a1 a2 k
 unfold laws_toModule.f
 repeat' first
   | (with_reducible exact laws_toFuncS.mono _ _)
   | (with_reducible exact laws_toIntS.mono _ _)
   | (with_reducible exact laws_toRecordS.mono _ _)
   | (with_reducible exact LeO.refl _)
   | (with_reducible exact LeO.none _)
   | (with_reducible refine LeO.ite ?_ ?_)
   | (with_reducible refine LeO.bind ?_ (fun _ => ?_))
   | exact laws_toFuncS.mono _ _
   | exact laws_toIntS.mono _ _
   | exact laws_toRecordS.mono _ _
   | exact LeO.none _
   | refine LeO.ite ?_ ?_
   | refine LeO.bind ?_ (fun _ => ?_)
set_option maxHeartbeats 8000000 in
set_option maxRecDepth 100000 in
theorem laws_toModule.calls (k : Nat) (A0_0 : Option Addr) (c0_0 : Nat) (l0_0 : List (S87)) (A0_1 : Option Addr) (c0_1 : Nat) (l0_1 : List (S91)) (A0_2 : Option Addr) (c0_2 : Nat) (l0_2 : List Int) (r1 : List (S60)) (r2 : List (S39)) (r3 : List Int) (w : World) (hr0_0 : Kd.C k87 w A0_0 l0_0.length l0_0) (hc0_0 : l0_0.length ≤ c0_0) (hr0_1 : Kd.C k91 w A0_1 l0_1.length l0_1) (hc0_1 : l0_1.length ≤ c0_1) (hr0_2 : Kd.C (Kd.int .i64) w A0_2 l0_2.length l0_2) (hc0_2 : l0_2.length ≤ c0_2) (h : laws_toModule.f k l0_0 l0_1 l0_2 = some (r1,r2,r3)) :
  Calls Try.prog 26 #[.agg #[.slice A0_0 l0_0.length c0_0,.slice A0_1 l0_1.length c0_1,.slice A0_2 l0_2.length c0_2]] w fun e w' => ∃ v0_ v1_ v2_ : Value,e = .returned (.agg #[v0_,v1_,v2_]) ∧ Kd.S k60 60 w' w.heap.size (fun _ => True) v0_ r1 ∧ Kd.S k39 39 w' w.heap.size (fun k_ => some k_ ≠ (v2_ : Value).ownBlock) v1_ r2 ∧ Kd.R (Kd.int .i64) 3 w' w.heap.size (fun _ => True) v2_ r3 ∧ Below w.heap.size w w':=by
 have hu49:=Try.underlying49
 have hu55:=Try.underlying55
 have HR0_0:=Aside0.mk hr0_0
 have HC0_0:=Aside0.mk hc0_0
 clear hr0_0 hc0_0
 have HR0_1:=Aside0.mk hr0_1
 have HC0_1:=Aside0.mk hc0_1
 clear hr0_1 hc0_1
 have HR0_2:=Aside0.mk hr0_2
 have HC0_2:=Aside0.mk hc0_2
 clear hr0_2 hc0_2
 have HB:=Aside0.mk (Below.refl w.heap.size w)
 have H : ((laws_toRecordS.f k l0_0).bind fun t211 => ((laws_toFuncS.f k l0_1).bind fun t214 => ((laws_toIntS.f k l0_2).bind fun t217 => (some (t211,t214,t217))))) = some (r1,r2,r3):=h
 clear h
 replace H:=Option.bind_eq_some_iff.mp H
 obtain ⟨t211,A20,H⟩:=H
 replace H : ((laws_toFuncS.f k l0_1).bind fun t214 => ((laws_toIntS.f k l0_2).bind fun t217 => (some (t211,t214,t217)))) = some (r1,r2,r3):=H
 have A2:=Aside0.mk A20
 clear A20
 replace H:=Option.bind_eq_some_iff.mp H
 obtain ⟨t214,A30,H⟩:=H
 replace H : ((laws_toIntS.f k l0_2).bind fun t217 => (some (t211,t214,t217))) = some (r1,r2,r3):=H
 have A3:=Aside0.mk A30
 clear A30
 replace H:=Option.bind_eq_some_iff.mp H
 obtain ⟨t217,A40,H⟩:=H
 replace H : (some (t211,t214,t217)) = some (r1,r2,r3):=H
 have A4:=Aside0.mk A40
 clear A40
 simp only [Option.some.injEq,Prod.mk.injEq] at H
 obtain ⟨rfl,rfl,rfl⟩:=H
 go_enter Try.func26,Try.ntmps26
 go_wp2_with (first | ((with_reducible refine gate_dst (N:=1) rfl ?_);refine box_event ?hg (N:=1) ?hd (cs:=#[.slice A0_0 l0_0.length c0_0,.slice A0_1 l0_1.length c0_1,.slice A0_2 l0_2.length c0_2]) (t:=49) ?hr ?_;(case hd => rfl);(case hg => rfl);(case hr => first | (go_simp;done) | (go_simp;rfl));intro gb208 hg w5 hbox hb;have n0_:=Up.BB HB hb;have n1_:=Aside0.mk (hbox);have n2_:=Aside0.mk ((by rw [hg];exact (below_size (Up.Bup HB)) : w.heap.size ≤ gb208));have n3_:=Aside0.mk ((by rw [hg];exact (below_size (Up.Bup HB)) : w.heap.size ≤ gb208));clear HB;have HB:=n0_;have BK208:=n1_;have GW208:=n2_;have GE208:=n3_;clear n0_ n1_ n2_ n3_;clear hb hbox hg) | ((with_reducible refine gate_dst (N:=2) rfl ?_);refine box_event ?hg (N:=2) ?hd (cs:=#[.slice none 0 0,.slice none 0 0,.slice none 0 0]) (t:=55) ?hr ?_;(case hd => rfl);(case hg => rfl);(case hr => first | (go_simp;done) | (go_simp;rfl));intro gb209 hg w6 hbox hb;have n0_:=Up.KB BK208 hb;have n1_:=Aside0.mk (below_step (by repeat (first | (with_reducible first | exact HB.out | apply below_alloc | apply pw_below_drewN | apply below_drew1 | refine below_set ?_ GE208.out) | exact HB.out)) hb);have n2_:=Aside0.mk (hbox);have n3_:=Aside0.mk ((by rw [hg];exact (below_size (by repeat (first | (with_reducible first | exact HB.out | apply below_alloc | apply pw_below_drewN | apply below_drew1 | refine below_set ?_ GE208.out) | exact HB.out))) : w.heap.size ≤ gb209));have n4_:=Aside0.mk ((by rw [hg];exact (below_size (by repeat (first | (with_reducible first | exact HB.out | apply below_alloc | apply pw_below_drewN | apply below_drew1 | refine below_set ?_ GE208.out) | exact HB.out))) : w.heap.size ≤ gb209));have n5_:=Aside0.mk ((by rw [hg];exact Nat.ne_of_lt (blk_lt (g:=gb208) (o:=.cells #[.slice A0_0 l0_0.length c0_0,.slice A0_1 l0_1.length c0_1,.slice A0_2 l0_2.length c0_2] 49 (0,0)) (Up.Kup BK208)) : gb208 ≠ gb209));have n6_:=Aside0.mk ((by rw [hg];exact Nat.ne_of_gt (blk_lt (g:=gb208) (o:=.cells #[.slice A0_0 l0_0.length c0_0,.slice A0_1 l0_1.length c0_1,.slice A0_2 l0_2.length c0_2] 49 (0,0)) (Up.Kup BK208)) : gb209 ≠ gb208));clear BK208;clear HB;have BK208:=n0_;have HB:=n1_;have BK209:=n2_;have GW209:=n3_;have GE209:=n4_;have NB208_209:=n5_;have NB209_208:=n6_;clear n0_ n1_ n2_ n3_ n4_ n5_ n6_;clear hb hbox hg) | ((with_reducible refine gate_dst (N:=3) rfl ?_);refine box_event ?hg (N:=3) ?hd (cs:=#[.slice none 0 0,.slice none 0 0,.slice none 0 0]) (t:=55) ?hr ?_;(case hd => rfl);(case hg => rfl);(case hr => first | (go_simp;done) | (go_simp;rfl));intro gb210 hg w7 hbox hb;have n0_:=Up.KB BK208 hb;have n1_:=Up.KB BK209 hb;have n2_:=Aside0.mk (below_step (by repeat (first | (with_reducible first | exact HB.out | apply below_alloc | apply pw_below_drewN | apply below_drew1 | refine below_set ?_ GE208.out | refine below_set ?_ GE209.out) | exact HB.out)) hb);have n3_:=Aside0.mk (hbox);have n4_:=Aside0.mk ((by rw [hg];exact (below_size (by repeat (first | (with_reducible first | exact HB.out | apply below_alloc | apply pw_below_drewN | apply below_drew1 | refine below_set ?_ GE208.out | refine below_set ?_ GE209.out) | exact HB.out))) : w.heap.size ≤ gb210));have n5_:=Aside0.mk ((by rw [hg];exact (below_size (by repeat (first | (with_reducible first | exact HB.out | apply below_alloc | apply pw_below_drewN | apply below_drew1 | refine below_set ?_ GE208.out | refine below_set ?_ GE209.out) | exact HB.out))) : w.heap.size ≤ gb210));have n6_:=Aside0.mk ((by rw [hg];exact Nat.ne_of_lt (blk_lt (g:=gb208) (o:=.cells #[.slice A0_0 l0_0.length c0_0,.slice A0_1 l0_1.length c0_1,.slice A0_2 l0_2.length c0_2] 49 (0,0)) (Up.Kup BK208)) : gb208 ≠ gb210));have n7_:=Aside0.mk ((by rw [hg];exact Nat.ne_of_gt (blk_lt (g:=gb208) (o:=.cells #[.slice A0_0 l0_0.length c0_0,.slice A0_1 l0_1.length c0_1,.slice A0_2 l0_2.length c0_2] 49 (0,0)) (Up.Kup BK208)) : gb210 ≠ gb208));have n8_:=Aside0.mk ((by rw [hg];exact Nat.ne_of_lt (blk_lt (g:=gb209) (o:=.cells #[.slice none 0 0,.slice none 0 0,.slice none 0 0] 55 (0,0)) (Up.Kup BK209)) : gb209 ≠ gb210));have n9_:=Aside0.mk ((by rw [hg];exact Nat.ne_of_gt (blk_lt (g:=gb209) (o:=.cells #[.slice none 0 0,.slice none 0 0,.slice none 0 0] 55 (0,0)) (Up.Kup BK209)) : gb210 ≠ gb209));clear BK208;clear BK209;clear HB;have BK208:=n0_;have BK209:=n1_;have HB:=n2_;have BK210:=n3_;have GW210:=n4_;have GE210:=n5_;have NB208_210:=n6_;have NB210_208:=n7_;have NB209_210:=n8_;have NB210_209:=n9_;clear n0_ n1_ n2_ n3_ n4_ n5_ n6_ n7_ n8_ n9_;clear hb hbox hg;have hnb8:=NB208_209.out;have hnc8:=NB209_208.out;have hnb9:=NB208_210.out;have hnc9:=NB210_208.out;have hcz10_0 : w7.cell? ⟨gb208,0,none⟩ = some (.slice A0_0 l0_0.length c0_0):=(blk_cell BK208.out 0).trans rfl;have hcz10_1 : w7.cell? ⟨gb208,1,none⟩ = some (.slice A0_1 l0_1.length c0_1):=(blk_cell BK208.out 1).trans rfl;have hcz10_2 : w7.cell? ⟨gb208,2,none⟩ = some (.slice A0_2 l0_2.length c0_2):=(blk_cell BK208.out 2).trans rfl;have hfz10_0:=blk_frozen BK208.out 0;have hfz10_1:=blk_frozen BK208.out 1;have hfz10_2:=blk_frozen BK208.out 2) | ((with_reducible refine gate_callee (f:=49) rfl ?_);refine goesL_ (some 6) rfl rfl Try.func49 (by kernel_rfl) rfl #[.slice A0_0 l0_0.length c0_0] rfl (by (try simp only [List.map_toArray,List.map_cons,List.map_nil]);first | done | rfl | (simp only [List.length_drop,List.length_take];rfl)) ?_;(with_reducible refine (laws_toRecordS.calls k _ _ l0_0 t211 _ ?side1 ?side2 A2.out).mono ?_);(case side1 => repeat (first | exact (Kd.C_below HR0_0.out HB.out) | (with_reducible refine Kd.C_alloc ?_ _) | (with_reducible refine Kd.C_drewN ?_ _) | (with_reducible refine Kd.C_drew ?_)));(case side2 => exact HC0_0.out);rintro e w11 ⟨v212,rfl,ho0,hb⟩;refine ⟨_,rfl,?_⟩;have n0_:=Aside0.mk (Kd.S_lower ho0 (below_size (by repeat (first | (with_reducible first | exact HB.out | apply below_alloc | apply pw_below_drewN | apply below_drew1 | refine below_set ?_ GE208.out | refine below_set ?_ GE209.out | refine below_set ?_ GE210.out) | exact HB.out))));have n1_:=Up.KB BK208 hb;have n2_:=Up.KB BK209 hb;have n3_:=Up.KB BK210 hb;have n4_:=Aside0.mk (below_step (by repeat (first | (with_reducible first | exact HB.out | apply below_alloc | apply pw_below_drewN | apply below_drew1 | refine below_set ?_ GE208.out | refine below_set ?_ GE209.out | refine below_set ?_ GE210.out) | exact HB.out)) hb);clear BK208;clear BK209;clear BK210;clear HB;have HO213:=n0_;have BK208:=n1_;have BK209:=n2_;have BK210:=n3_;have HB:=n4_;clear n0_ n1_ n2_ n3_ n4_;(try clear hb);(try clear hb2);(try clear hk);(try clear hi);(try clear ho0);obtain ⟨Ao12,co12,eo12⟩:=Kd.S_slice HO213.out;subst eo12;have hnb13:=NB210_209.out;have hnc13:=NB209_210.out;have hcz14_0 : w11.cell? ⟨gb210,0,none⟩ = some (.slice none 0 0):=(blk_cell BK210.out 0).trans rfl;have hcz14_1 : w11.cell? ⟨gb210,1,none⟩ = some (.slice none 0 0):=(blk_cell BK210.out 1).trans rfl;have hcz14_2 : w11.cell? ⟨gb210,2,none⟩ = some (.slice none 0 0):=(blk_cell BK210.out 2).trans rfl;have hfz14_0:=blk_frozen BK210.out 0;have hfz14_1:=blk_frozen BK210.out 1;have hfz14_2:=blk_frozen BK210.out 2;have hcz15_0 : w11.cell? ⟨gb208,0,none⟩ = some (.slice A0_0 l0_0.length c0_0):=(blk_cell BK208.out 0).trans rfl;have hcz15_1 : w11.cell? ⟨gb208,1,none⟩ = some (.slice A0_1 l0_1.length c0_1):=(blk_cell BK208.out 1).trans rfl;have hcz15_2 : w11.cell? ⟨gb208,2,none⟩ = some (.slice A0_2 l0_2.length c0_2):=(blk_cell BK208.out 2).trans rfl;have hfz15_0:=blk_frozen BK208.out 0;have hfz15_1:=blk_frozen BK208.out 1;have hfz15_2:=blk_frozen BK208.out 2) | ((with_reducible refine gate_callee (f:=50) rfl ?_);refine goesL_ (some 10) rfl rfl Try.func50 (by kernel_rfl) rfl #[.slice A0_1 l0_1.length c0_1] rfl (by (try simp only [List.map_toArray,List.map_cons,List.map_nil]);first | done | rfl | (simp only [List.length_drop,List.length_take];rfl)) ?_;(with_reducible refine (laws_toFuncS.calls k _ _ l0_1 t214 _ ?side1 ?side2 A3.out).mono ?_);(case side1 => exact Kd.C_below HR0_1.out (by repeat (first | (with_reducible first | exact HB.out | apply below_alloc | apply pw_below_drewN | apply below_drew1 | refine below_set ?_ GE208.out | refine below_set ?_ GE209.out | refine below_set ?_ GE210.out) | exact HB.out)));(case side2 => exact HC0_1.out);rintro e w16 ⟨v215,rfl,ho0,hb⟩;refine ⟨_,rfl,?_⟩;have n0_:=Aside0.mk (Kd.S_below (by (with_reducible repeat (first | apply Kd.S_alloc | apply Kd.S_drewN | apply Kd.S_drew));exact (Kd.S_mono (Kd.S_far (p:=⟨gb210,0,none⟩) (Kd.S_types HO213.out BK210.out (by decide)) (fun _ hk => hk.2) (.slice Ao12 t211.length co12)) (fun _ h_ => h_.1))) hb);have n1_:=Aside0.mk (Kd.S_lower ho0 (below_size (by repeat (first | (with_reducible first | exact HB.out | apply below_alloc | apply pw_below_drewN | apply below_drew1 | refine below_set ?_ GE208.out | refine below_set ?_ GE209.out | refine below_set ?_ GE210.out) | exact HB.out))));have n2_:=Aside0.mk (blk_below (g:=gb208) (o:=.cells #[.slice A0_0 l0_0.length c0_0,.slice A0_1 l0_1.length c0_1,.slice A0_2 l0_2.length c0_2] 49 (0,0)) (by (with_reducible repeat (first | refine blk_drewN ?_ _ | refine blk_drew ?_ | refine blk_alloc ?_ _));refine blk_far ?_ NB208_210.out _;(with_reducible repeat (first | refine blk_drewN ?_ _ | refine blk_drew ?_ | refine blk_alloc ?_ _));exact BK208.out) hb);have n3_:=Aside0.mk (blk_below (g:=gb209) (o:=.cells #[.slice none 0 0,.slice none 0 0,.slice none 0 0] 55 (0,0)) (by (with_reducible repeat (first | refine blk_drewN ?_ _ | refine blk_drew ?_ | refine blk_alloc ?_ _));refine blk_far ?_ NB209_210.out _;(with_reducible repeat (first | refine blk_drewN ?_ _ | refine blk_drew ?_ | refine blk_alloc ?_ _));exact BK209.out) hb);have n4_:=Aside0.mk (blk_below (g:=gb210) (o:=.cells #[.slice Ao12 t211.length co12,.slice none 0 0,.slice none 0 0] 55 (0,0)) (by (with_reducible repeat (first | refine blk_drewN ?_ _ | refine blk_drew ?_ | refine blk_alloc ?_ _));refine blk_put (cs:=#[.slice none 0 0,.slice none 0 0,.slice none 0 0]) ?_ 0 _ rfl;(with_reducible repeat (first | refine blk_drewN ?_ _ | refine blk_drew ?_ | refine blk_alloc ?_ _));exact BK210.out) hb);have n5_:=Aside0.mk (below_step (by repeat (first | (with_reducible first | exact HB.out | apply below_alloc | apply pw_below_drewN | apply below_drew1 | refine below_set ?_ GE208.out | refine below_set ?_ GE209.out | refine below_set ?_ GE210.out) | exact HB.out)) hb);clear HO213;clear BK208;clear BK209;clear BK210;clear HB;have HO213:=n0_;have HO216:=n1_;have BK208:=n2_;have BK209:=n3_;have BK210:=n4_;have HB:=n5_;clear n0_ n1_ n2_ n3_ n4_ n5_;(try clear hb);(try clear hb2);(try clear hk);(try clear hi);(try clear ho0);obtain ⟨Ao17,co17,eo17⟩:=Kd.S_slice HO216.out;subst eo17;have hcz18_0 : w16.cell? ⟨gb210,0,none⟩ = some (.slice Ao12 t211.length co12):=(blk_cell BK210.out 0).trans rfl;have hcz18_1 : w16.cell? ⟨gb210,1,none⟩ = some (.slice none 0 0):=(blk_cell BK210.out 1).trans rfl;have hcz18_2 : w16.cell? ⟨gb210,2,none⟩ = some (.slice none 0 0):=(blk_cell BK210.out 2).trans rfl;have hfz18_0:=blk_frozen BK210.out 0;have hfz18_1:=blk_frozen BK210.out 1;have hfz18_2:=blk_frozen BK210.out 2;have hcz19_0 : w16.cell? ⟨gb208,0,none⟩ = some (.slice A0_0 l0_0.length c0_0):=(blk_cell BK208.out 0).trans rfl;have hcz19_1 : w16.cell? ⟨gb208,1,none⟩ = some (.slice A0_1 l0_1.length c0_1):=(blk_cell BK208.out 1).trans rfl;have hcz19_2 : w16.cell? ⟨gb208,2,none⟩ = some (.slice A0_2 l0_2.length c0_2):=(blk_cell BK208.out 2).trans rfl;have hfz19_0:=blk_frozen BK208.out 0;have hfz19_1:=blk_frozen BK208.out 1;have hfz19_2:=blk_frozen BK208.out 2) | ((with_reducible refine gate_callee (f:=51) rfl ?_);refine goesL_ (some 14) rfl rfl Try.func51 (by kernel_rfl) rfl #[.slice A0_2 l0_2.length c0_2] rfl (by (try simp only [List.map_toArray,List.map_cons,List.map_nil]);first | done | rfl | (simp only [List.length_drop,List.length_take];rfl)) ?_;(with_reducible refine (laws_toIntS.calls k _ _ l0_2 t217 _ ?side1 ?side2 A4.out).mono ?_);(case side1 => exact Kd.C_below HR0_2.out (by repeat (first | (with_reducible first | exact HB.out | apply below_alloc | apply pw_below_drewN | apply below_drew1 | refine below_set ?_ GE208.out | refine below_set ?_ GE209.out | refine below_set ?_ GE210.out) | exact HB.out)));(case side2 => exact HC0_2.out);rintro e w20 ⟨v218,rfl,ho0,hb⟩;refine ⟨_,rfl,?_⟩;have n0_:=Aside0.mk (Kd.S_below (by (with_reducible repeat (first | apply Kd.S_alloc | apply Kd.S_drewN | apply Kd.S_drew));exact (Kd.S_mono (Kd.S_far (p:=⟨gb210,1,none⟩) (Kd.S_types HO213.out BK210.out (by decide)) (fun _ hk => hk.2) (.slice Ao17 t214.length co17)) (fun _ h_ => h_.1))) hb);have n1_:=Aside0.mk (Kd.S_elder' (by (with_reducible repeat (first | apply Kd.S_alloc | apply Kd.S_drewN | apply Kd.S_drew));exact (Kd.S_mono (Kd.S_far (p:=⟨gb210,1,none⟩) (Kd.S_types HO216.out BK210.out (by decide)) (fun _ hk => hk.2) (.slice Ao17 t214.length co17)) (fun _ h_ => h_.1))) (Kd.R_base ho0) hb);have n2_:=Aside0.mk (Kd.R_lower ho0 (below_size (by repeat (first | (with_reducible first | exact HB.out | apply below_alloc | apply pw_below_drewN | apply below_drew1 | refine below_set ?_ GE208.out | refine below_set ?_ GE209.out | refine below_set ?_ GE210.out) | exact HB.out))));have n3_:=Aside0.mk (blk_below (g:=gb208) (o:=.cells #[.slice A0_0 l0_0.length c0_0,.slice A0_1 l0_1.length c0_1,.slice A0_2 l0_2.length c0_2] 49 (0,0)) (by (with_reducible repeat (first | refine blk_drewN ?_ _ | refine blk_drew ?_ | refine blk_alloc ?_ _));refine blk_far ?_ NB208_210.out _;(with_reducible repeat (first | refine blk_drewN ?_ _ | refine blk_drew ?_ | refine blk_alloc ?_ _));exact BK208.out) hb);have n4_:=Aside0.mk (blk_below (g:=gb209) (o:=.cells #[.slice none 0 0,.slice none 0 0,.slice none 0 0] 55 (0,0)) (by (with_reducible repeat (first | refine blk_drewN ?_ _ | refine blk_drew ?_ | refine blk_alloc ?_ _));refine blk_far ?_ NB209_210.out _;(with_reducible repeat (first | refine blk_drewN ?_ _ | refine blk_drew ?_ | refine blk_alloc ?_ _));exact BK209.out) hb);have n5_:=Aside0.mk (blk_below (g:=gb210) (o:=.cells #[.slice Ao12 t211.length co12,.slice Ao17 t214.length co17,.slice none 0 0] 55 (0,0)) (by (with_reducible repeat (first | refine blk_drewN ?_ _ | refine blk_drew ?_ | refine blk_alloc ?_ _));refine blk_put (cs:=#[.slice Ao12 t211.length co12,.slice none 0 0,.slice none 0 0]) ?_ 1 _ rfl;(with_reducible repeat (first | refine blk_drewN ?_ _ | refine blk_drew ?_ | refine blk_alloc ?_ _));exact BK210.out) hb);have n6_:=Aside0.mk (below_step (by repeat (first | (with_reducible first | exact HB.out | apply below_alloc | apply pw_below_drewN | apply below_drew1 | refine below_set ?_ GE208.out | refine below_set ?_ GE209.out | refine below_set ?_ GE210.out) | exact HB.out)) hb);clear HO213;clear HO216;clear BK208;clear BK209;clear BK210;clear HB;have HO213:=n0_;have HO216:=n1_;have HO219:=n2_;have BK208:=n3_;have BK209:=n4_;have BK210:=n5_;have HB:=n6_;clear n0_ n1_ n2_ n3_ n4_ n5_ n6_;(try clear hb);(try clear hb2);(try clear hk);(try clear hi);(try clear ho0);obtain ⟨Ao21,co21,eo21⟩:=Kd.R_slice HO219.out;subst eo21;have hcz22_0 : w20.cell? ⟨gb210,0,none⟩ = some (.slice Ao12 t211.length co12):=(blk_cell BK210.out 0).trans rfl;have hcz22_1 : w20.cell? ⟨gb210,1,none⟩ = some (.slice Ao17 t214.length co17):=(blk_cell BK210.out 1).trans rfl;have hcz22_2 : w20.cell? ⟨gb210,2,none⟩ = some (.slice none 0 0):=(blk_cell BK210.out 2).trans rfl;have hfz22_0:=blk_frozen BK210.out 0;have hfz22_1:=blk_frozen BK210.out 1;have hfz22_2:=blk_frozen BK210.out 2;have hcz23_0 : w20.cell? ⟨gb209,0,none⟩ = some (.slice none 0 0):=(blk_cell BK209.out 0).trans rfl;have hcz23_1 : w20.cell? ⟨gb209,1,none⟩ = some (.slice none 0 0):=(blk_cell BK209.out 1).trans rfl;have hcz23_2 : w20.cell? ⟨gb209,2,none⟩ = some (.slice none 0 0):=(blk_cell BK209.out 2).trans rfl;have hfz23_0:=blk_frozen BK209.out 0;have hfz23_1:=blk_frozen BK209.out 1;have hfz23_2:=blk_frozen BK209.out 2))
 refine bodyPost_ret (results_cell_row rfl _ _ gb209 55 #[.slice Ao12 t211.length co12,.slice Ao17 t214.length co17,.slice Ao21 t217.length co21] (0,0) _ rfl (by (with_reducible repeat (first | refine blk_drewN ?_ _ | refine blk_drew ?_ | refine blk_alloc ?_ _));refine blk_put (cs:=#[.slice Ao12 t211.length co12,.slice Ao17 t214.length co17,.slice none 0 0]) ?_ 2 _ rfl;(with_reducible repeat (first | refine blk_drewN ?_ _ | refine blk_drew ?_ | refine blk_alloc ?_ _));refine blk_put (cs:=#[.slice Ao12 t211.length co12,.slice none 0 0,.slice none 0 0]) ?_ 1 _ rfl;(with_reducible repeat (first | refine blk_drewN ?_ _ | refine blk_drew ?_ | refine blk_alloc ?_ _));refine blk_put (cs:=#[.slice none 0 0,.slice none 0 0,.slice none 0 0]) ?_ 0 _ rfl;(with_reducible repeat (first | refine blk_drewN ?_ _ | refine blk_drew ?_ | refine blk_alloc ?_ _));refine blk_far ?_ NB209_210.out _;(with_reducible repeat (first | refine blk_drewN ?_ _ | refine blk_drew ?_ | refine blk_alloc ?_ _));exact BK209.out) Try.underlying55 rfl (by kernel_rfl)) rfl ?_
 exact ⟨_,_,_,by first | rfl | (simp [errW_none,errW_some] <;> rfl) | (simp [*,errW_none,errW_some] <;> rfl),by (with_reducible repeat (first | apply Kd.S_alloc | apply Kd.S_drewN | apply Kd.S_drew));exact Kd.S_mono (Kd.S_far (p:=⟨gb209,2,none⟩) (Kd.S_far (p:=⟨gb209,1,none⟩) (Kd.S_far (p:=⟨gb209,0,none⟩) (Kd.S_far (p:=⟨gb210,2,none⟩) (Kd.S_types (Kd.S_types HO213.out BK210.out (by decide)) BK209.out (by decide)) (fun _ hk => hk.1.2) (.slice Ao21 t217.length co21)) (fun _ hk => hk.2) (.slice Ao12 t211.length co12)) (fun _ hk => hk.2) (.slice Ao17 t214.length co17)) (fun _ hk => hk.2) (.slice Ao21 t217.length co21)) (fun _ hk => trivial),by (with_reducible repeat (first | apply Kd.S_alloc | apply Kd.S_drewN | apply Kd.S_drew));exact Kd.S_mono (Kd.S_far (p:=⟨gb209,2,none⟩) (Kd.S_far (p:=⟨gb209,1,none⟩) (Kd.S_far (p:=⟨gb209,0,none⟩) (Kd.S_far (p:=⟨gb210,2,none⟩) (Kd.S_types (Kd.S_types HO216.out BK210.out (by decide)) BK209.out (by decide)) (fun _ hk => hk.1.2) (.slice Ao21 t217.length co21)) (fun _ hk => hk.2) (.slice Ao12 t211.length co12)) (fun _ hk => hk.2) (.slice Ao17 t214.length co17)) (fun _ hk => hk.2) (.slice Ao21 t217.length co21)) (fun _ hk => hk.1.1.2),by (with_reducible repeat (first | apply Kd.R_alloc | apply Kd.R_drewN | apply Kd.R_drew));exact Kd.R_mono (Kd.R_far (p:=⟨gb209,2,none⟩) (Kd.R_far (p:=⟨gb209,1,none⟩) (Kd.R_far (p:=⟨gb209,0,none⟩) (Kd.R_far (p:=⟨gb210,2,none⟩) (Kd.R_types (Kd.R_types HO219.out BK210.out (by decide)) BK209.out (by decide)) (fun _ hk => hk.1.2) (.slice Ao21 t217.length co21)) (fun _ hk => hk.2) (.slice Ao12 t211.length co12)) (fun _ hk => hk.2) (.slice Ao17 t214.length co17)) (fun _ hk => hk.2) (.slice Ao21 t217.length co21)) (fun _ hk => trivial),by repeat (first | (with_reducible first | exact HB.out | apply below_alloc | apply pw_below_drewN | apply below_drew1 | refine below_set ?_ GE208.out | refine below_set ?_ GE209.out | refine below_set ?_ GE210.out) | exact HB.out)⟩

/-! ### laws_toModuleS: function 8 -/
def laws_toModuleS.l0 : Nat → List (S49) → List (S55) → Int → Option ((List (S55)))
 | 0,_,_,_ => none
 | k + 1,x0,x3,x4 => if x4 < (x0.length : Int) then (if 0 ≤ x4 then ((laws_toModule.f k ((rd_T49 x0 x4).f0) ((rd_T49 x0 x4).f1) ((rd_T49 x0 x4).f2)).bind fun bt224 => (if x4 < (x3.length : Int) then (laws_toModuleS.l0 k x0 (x3.set (x4 : Int).toNat (⟨bt224.1,bt224.2.1,bt224.2.2⟩ : S55)) (wrap64 (x4 + 1))) else (none))) else (none)) else (some x3)
def laws_toModuleS.f (k : Nat) (l0 : List (S49)) : Option ((List (S55))):=if 0 ≤ (l0.length : Int) then (if ((l0.length : Int) : Int).toNat ≤ 3909374676536 then (laws_toModuleS.l0 k l0 (List.replicate ((l0.length : Int) : Int).toNat z55) 0) else (none)) else (none)
theorem laws_toModuleS.mono_l : ∀ k,(∀ y0 y1 y2,LeO (laws_toModuleS.l0 k y0 y1 y2) (laws_toModuleS.l0 (k + 1) y0 y1 y2))
 | 0 => fun _ _ _ r h => by simp [laws_toModuleS.l0] at h
 | k + 1 => by
  have ih0:=laws_toModuleS.mono_l k
  ·intro y0 y1 y2
   unfold laws_toModuleS.l0
   repeat' first
   | (with_reducible exact ih0 _ _ _)
   | (with_reducible exact laws_toModule.mono _ _ _ _)
   | (with_reducible exact LeO.refl _)
   | (with_reducible exact LeO.none _)
   | (with_reducible refine LeO.ite ?_ ?_)
   | (with_reducible refine LeO.bind ?_ (fun _ => ?_))
   | exact ih0 _ _ _
   | exact laws_toModule.mono _ _ _ _
   | exact LeO.none _
   | refine LeO.ite ?_ ?_
   | refine LeO.bind ?_ (fun _ => ?_)
theorem laws_toModuleS.mono : ∀ a0 k,LeO (laws_toModuleS.f k a0) (laws_toModuleS.f (k + 1) a0):=by
 intro a0 k
 have ih0:=laws_toModuleS.mono_l k
 unfold laws_toModuleS.f
 repeat' first
   | (with_reducible exact ih0 _ _ _)
   | (with_reducible exact laws_toModule.mono _ _ _ _)
   | (with_reducible exact LeO.refl _)
   | (with_reducible exact LeO.none _)
   | (with_reducible refine LeO.ite ?_ ?_)
   | (with_reducible refine LeO.bind ?_ (fun _ => ?_))
   | exact ih0 _ _ _
   | exact laws_toModule.mono _ _ _ _
   | exact LeO.none _
   | refine LeO.ite ?_ ?_
   | refine LeO.bind ?_ (fun _ => ?_)
set_option maxHeartbeats 8000000 in
set_option maxRecDepth 100000 in
theorem laws_toModuleS.calls (k : Nat) (A0 : Option Addr) (c0 : Nat) (l0 : List (S49)) (r : List (S55)) (w : World) (hr0 : Kd.C k49 w A0 l0.length l0) (hc0 : l0.length ≤ c0) (h : laws_toModuleS.f k l0 = some r) :
  Calls Try.prog 8 #[.slice A0 l0.length c0] w fun e w' => ∃ v0_ : Value,e = .returned (v0_) ∧ Kd.R k55 55 w' w.heap.size (fun _ => True) v0_ r ∧ Below w.heap.size w w':=by
 have hu49:=Try.underlying49
 have hu55:=Try.underlying55
 have HR0:=Aside0.mk hr0
 have HC0:=Aside0.mk hc0
 clear hr0 hc0
 have HB:=Aside0.mk (Below.refl w.heap.size w)
 have H : (if 0 ≤ (l0.length : Int) then (if ((l0.length : Int) : Int).toNat ≤ 3909374676536 then (laws_toModuleS.l0 k l0 (List.replicate ((l0.length : Int) : Int).toNat z55) 0) else (none)) else (none)) = some r:=h
 clear h
 by_cases c2 : 0 ≤ (l0.length : Int)
 ·rw [if_pos c2] at H
  have c2b0:=eq_true c2
  have c2b1 : decide (0 ≤ (l0.length : Int)) = true:=decide_eq_true c2
  clear c2
  by_cases c3 : ((l0.length : Int) : Int).toNat ≤ 3909374676536
  ·rw [if_pos c3] at H
   have c3b0:=eq_true c3
   have c3b1 : decide (((l0.length : Int) : Int).toNat ≤ 3909374676536) = true:=decide_eq_true c3
   clear c3
   obtain ⟨y220,hy220⟩ : ∃ y_ : List (S55),y_ = (List.replicate ((l0.length : Int) : Int).toNat z55):=⟨_,rfl⟩
   replace H : (laws_toModuleS.l0 k l0 y220 0) = some r:=by first | (rw [hy220];with_reducible exact H) | (have H2_:=(Option.bind_some _ _).symm.trans H;rw [hy220];with_reducible exact H2_) | (have H2_:=(Option.bind_some _ _).symm.trans H;with_reducible exact H2_) | with_reducible exact H | (rw [hy220];exact H) | exact H
   have Ny220:=Aside0.mk hy220
   clear hy220
   have H':=Aside0.mk H
   clear H
   go_enter Try.func8,Try.ntmps8
   go_wp2_with (first | ((with_reducible refine gate_dst (N:=7) rfl ?_);refine Kd.R_make k55 _ 55 rfl (N:=7) rfl 25 _ _ rfl (l0.length : Int) rfl rfl Try.underlying25 (.agg #[(.slice none 0 0),(.slice none 0 0),(.slice none 0 0)]) 72 info55 rfl (by decide) (by omega) z55 (ok:=fun _ => True) (okp:=fun _ => True) (k55_mkM _ _ _ z55 (Kd.R_nil _ _ _ _ _) (Kd.R_nil _ _ _ _ _) (Kd.R_nil _ _ _ _ _)) (fun _ hk => hk) trivial (of_decide_eq_true (by first | (with_reducible assumption) | assumption)) (Nat.le_trans (Nat.mul_le_mul_right _ (of_decide_eq_true (by first | (with_reducible assumption) | assumption) : (l0.length : Int).toNat ≤ 3909374676536)) (by omega)) (Below.refl _ _) (Nat.le_refl _) ?_;intro v221 w4 ho5 hb hg_ hnew_;clear hg_ hnew_;(first | rw [← Ny220.out] at ho5 | (simp only [Int.reduceToNat] at ho5;rw [← Ny220.out] at ho5));have n0_:=Aside0.mk (Kd.R_lower ho5 (below_size (Up.Bup HB)));have n1_:=Up.BB HB hb;clear HB;have HO222:=n0_;have HB:=n1_;clear n0_ n1_;clear hb ho5))
   go_loopg [4] k (fun kq v4 w' => ∃ (x3_1 : List (S55)) (x4_1 : Int),v4 = .int .i64 x4_1 ∧ Aside0 (laws_toModuleS.l0 kq l0 x3_1 x4_1 = some r) ∧ Aside0 (kq ≤ k) ∧ Aside0 (Kd.R k55 55 w' w.heap.size (fun _ => True) v221 x3_1) ∧ Aside0 (Below w.heap.size w w'))
   case atStart => exact ⟨(y220),(0),(by first | rfl | (simp;done) | (simp [*];done)),H',⟨Nat.le_refl _⟩,⟨Up.Rup HO222⟩,⟨Up.Bup HB⟩⟩
   case round =>
    clear H'
    try clear c2
    try clear c2b0
    try clear c2b1
    try clear p2
    try clear c3
    try clear c3b0
    try clear c3b1
    obtain ⟨x3_1,x4_1,rfl,HA,HK1,HO_3,HB⟩:=hrel
    cases gk with
    | zero => exact absurd HA.out (by simp [laws_toModuleS.l0])
    | succ k1 =>
     have H:=HA.out
     clear HA
     simp only [laws_toModuleS.l0] at H
     by_cases c6 : x4_1 < (l0.length : Int)
     ·rw [if_pos c6] at H
      have c6b0 : decide (x4_1 < (l0.length : Int)) = true:=decide_eq_true c6
      clear c6
      by_cases c7 : 0 ≤ x4_1
      ·rw [if_pos c7] at H
       have c7b0 : decide (0 ≤ x4_1) = true:=decide_eq_true c7
       clear c7
       replace H:=Option.bind_eq_some_iff.mp H
       obtain ⟨⟨t224,t227,t230⟩,A80,H⟩:=H
       replace H : (if x4_1 < (x3_1.length : Int) then (laws_toModuleS.l0 k1 l0 (x3_1.set (x4_1 : Int).toNat (⟨t224,t227,t230⟩ : S55)) (wrap64 (x4_1 + 1))) else (none)) = some r:=H
       have A8:=Aside0.mk A80
       clear A80
       by_cases c9 : x4_1 < (x3_1.length : Int)
       ·rw [if_pos c9] at H
        have c9b0 : decide (x4_1 < (x3_1.length : Int)) = true:=decide_eq_true c9
        clear c9
        obtain ⟨y233,hy233⟩ : ∃ y_ : List (S55),y_ = (x3_1.set (x4_1 : Int).toNat (⟨t224,t227,t230⟩ : S55)):=⟨_,rfl⟩
        replace H : (laws_toModuleS.l0 k1 l0 y233 (wrap64 (x4_1 + 1))) = some r:=by first | (rw [hy233];with_reducible exact H) | (have H2_:=(Option.bind_some _ _).symm.trans H;rw [hy233];with_reducible exact H2_) | (have H2_:=(Option.bind_some _ _).symm.trans H;with_reducible exact H2_) | with_reducible exact H | (rw [hy233];exact H) | exact H
        have Ny233:=Aside0.mk hy233
        clear hy233
        have H':=Aside0.mk H
        clear H
        have p223 : 0 ≤ (x4_1 : Int):=of_decide_eq_true (by first | (with_reducible assumption) | assumption)
        have q223 : x4_1 < (l0.length : Int):=of_decide_eq_true (by first | (with_reducible assumption) | assumption)
        obtain ⟨ad223,A223_0,c223_0,A223_1,c223_1,A223_2,c223_2,e223,hx223_0,hx223_1,hx223_2,hl223_0,hi223_0,hl223_1,hi223_1,hl223_2,hi223_2⟩:=at_T49 HR0.out x4_1 p223 q223
        cases e223
        replace hx223_0:=(HB.out.cell (World.block_lt_of_cell? w _ hx223_0)).trans hx223_0
        replace hx223_1:=(HB.out.cell (World.block_lt_of_cell? w _ hx223_1)).trans hx223_1
        replace hx223_2:=(HB.out.cell (World.block_lt_of_cell? w _ hx223_2)).trans hx223_2
        have HR223_0:=Aside0.mk hi223_0
        have HC223_0:=Aside0.mk hl223_0
        clear hi223_0 hl223_0
        have HR223_1:=Aside0.mk hi223_1
        have HC223_1:=Aside0.mk hl223_1
        clear hi223_1 hl223_1
        have HR223_2:=Aside0.mk hi223_2
        have HC223_2:=Aside0.mk hl223_2
        clear hi223_2 hl223_2
        replace p223:=eq_true p223
        replace q223:=eq_true q223
        go_wp2_with (first | ((with_reducible refine gate_callee (f:=26) rfl ?_);refine goesL_ (some 20) rfl rfl Try.func26 (by kernel_rfl) rfl #[.agg #[.slice A223_0 ((rd_T49 l0 x4_1).f0).length c223_0,.slice A223_1 ((rd_T49 l0 x4_1).f1).length c223_1,.slice A223_2 ((rd_T49 l0 x4_1).f2).length c223_2]] rfl (by (try simp only [List.map_toArray,List.map_cons,List.map_nil]);first | done | rfl | (simp only [List.length_drop,List.length_take];rfl)) ?_;(with_reducible refine (laws_toModule.calls k1 _ _ ((rd_T49 l0 x4_1).f0) _ _ ((rd_T49 l0 x4_1).f1) _ _ ((rd_T49 l0 x4_1).f2) t224 t227 t230 _ ?side1 ?side2 ?side3 ?side4 ?side5 ?side6 A8.out).mono ?_);(case side1 => repeat (first | exact (Kd.C_below HR223_0.out HB.out) | (with_reducible refine Kd.C_alloc ?_ _) | (with_reducible refine Kd.C_drewN ?_ _) | (with_reducible refine Kd.C_drew ?_)));(case side2 => exact HC223_0.out);(case side3 => repeat (first | exact (Kd.C_below HR223_1.out HB.out) | (with_reducible refine Kd.C_alloc ?_ _) | (with_reducible refine Kd.C_drewN ?_ _) | (with_reducible refine Kd.C_drew ?_)));(case side4 => exact HC223_1.out);(case side5 => repeat (first | exact (Kd.C_below HR223_2.out HB.out) | (with_reducible refine Kd.C_alloc ?_ _) | (with_reducible refine Kd.C_drewN ?_ _) | (with_reducible refine Kd.C_drew ?_)));(case side6 => exact HC223_2.out);rintro e w11 ⟨v225,v228,v231,rfl,ho0,ho1,ho2,hb⟩;refine ⟨_,rfl,?_⟩;have n0_:=Aside0.mk (Kd.R_mono (Kd.R_told (Kd.R_told (Kd.R_told (Kd.R_old (Up.Rup HO_3) hb) (Kd.S_base ho0)) (Kd.S_base ho1)) (Kd.R_base ho2)) (fun _ h_ => h_.1));have n1_:=Aside0.mk (Kd.S_lower ho0 (below_size (Up.Bup HB)));have n2_:=Aside0.mk (Kd.S_lower ho1 (below_size (Up.Bup HB)));have n3_:=Aside0.mk (Kd.R_lower ho2 (below_size (Up.Bup HB)));have n4_:=Up.BB HB hb;clear HO_3;clear HB;have HO_3:=n0_;have HO226:=n1_;have HO229:=n2_;have HO232:=n3_;have HB:=n4_;clear n0_ n1_ n2_ n3_ n4_;(try clear hb);(try clear hb2);(try clear hk);(try clear hi);(try clear ho0);(try clear ho1);(try clear ho2);(have hsvv225_ : ∀ (a_ : Addr) (m_ : Mode) (W_ : World),(Go.store a_ v225 m_).run Try.prog W_ = stored Try.prog W_ a_ v225 m_:=fun a_ m_ W_ => run_store _ W_ a_ _ m_ (by first | (obtain ⟨_,_,e_⟩:=Kd.R_slice HO226.out;rw [e_];rfl) | (obtain ⟨_,_,e_⟩:=Kd.R_slice (Kd.S_R HO226.out);rw [e_];rfl)));(have hcvv225_ : (v225 : Value).cells = #[v225]:=(by first | (obtain ⟨_,_,e_⟩:=Kd.R_slice HO226.out;rw [e_];rfl) | (obtain ⟨_,_,e_⟩:=Kd.R_slice (Kd.S_R HO226.out);rw [e_];rfl)));(have hsvv228_ : ∀ (a_ : Addr) (m_ : Mode) (W_ : World),(Go.store a_ v228 m_).run Try.prog W_ = stored Try.prog W_ a_ v228 m_:=fun a_ m_ W_ => run_store _ W_ a_ _ m_ (by first | (obtain ⟨_,_,e_⟩:=Kd.R_slice HO229.out;rw [e_];rfl) | (obtain ⟨_,_,e_⟩:=Kd.R_slice (Kd.S_R HO229.out);rw [e_];rfl)));(have hcvv228_ : (v228 : Value).cells = #[v228]:=(by first | (obtain ⟨_,_,e_⟩:=Kd.R_slice HO229.out;rw [e_];rfl) | (obtain ⟨_,_,e_⟩:=Kd.R_slice (Kd.S_R HO229.out);rw [e_];rfl)));(have hsvv231_ : ∀ (a_ : Addr) (m_ : Mode) (W_ : World),(Go.store a_ v231 m_).run Try.prog W_ = stored Try.prog W_ a_ v231 m_:=fun a_ m_ W_ => run_store _ W_ a_ _ m_ (by first | (obtain ⟨_,_,e_⟩:=Kd.R_slice HO232.out;rw [e_];rfl) | (obtain ⟨_,_,e_⟩:=Kd.R_slice (Kd.S_R HO232.out);rw [e_];rfl)));(have hcvv231_ : (v231 : Value).cells = #[v231]:=(by first | (obtain ⟨_,_,e_⟩:=Kd.R_slice HO232.out;rw [e_];rfl) | (obtain ⟨_,_,e_⟩:=Kd.R_slice (Kd.S_R HO232.out);rw [e_];rfl)));have p10 : 0 ≤ (x4_1 : Int):=of_decide_eq_true (by first | (with_reducible assumption) | assumption);have q10 : (x4_1 : Int) < ((x3_1.length : Int) : Int):=of_decide_eq_true (by first | (with_reducible assumption) | assumption);obtain ⟨go10,co10,eo10,gb10,gl10,cl10,HG10⟩:=Kd.R_form HO_3.out (by omega);(first | cases eo10 | (injection eo10 with ea_ en_ ec_;(first | subst ea_ | (injection ea_ with ea_;subst ea_));subst ec_;clear en_));have GB10:=Aside0.mk gb10;have GG10:=Aside0.mk HG10;clear gb10 gl10 HG10;obtain ⟨ce10,hcl10,hM10,hcc10,hfr10⟩:=Kd.R_elem HO_3.out z55 (x4_1 : Int) p10 q10;obtain ⟨ve10_0,ve10_1,ve10_2,rfl,ge10_0,ge10_1,ge10_2⟩:=k55_openM hM10;have hx10_0 : w11.cell? ⟨go10,(x4_1 : Int).toNat * 3,none⟩ = some (ve10_0):=hcc10 0 _ rfl;have hx10_1 : w11.cell? ⟨go10,(x4_1 : Int).toNat * 3 + 1,none⟩ = some (ve10_1):=hcc10 1 _ rfl;have hx10_2 : w11.cell? ⟨go10,(x4_1 : Int).toNat * 3 + 2,none⟩ = some (ve10_2):=hcc10 2 _ rfl;have hf10_0 : w11.frozen? ⟨go10,(x4_1 : Int).toNat * 3,none⟩ = false:=hfr10 0;have hf10_1 : w11.frozen? ⟨go10,(x4_1 : Int).toNat * 3 + 1,none⟩ = false:=hfr10 1;have hf10_2 : w11.frozen? ⟨go10,(x4_1 : Int).toNat * 3 + 2,none⟩ = false:=hfr10 2;clear hcl10 hcc10 hfr10 hM10;replace p10:=eq_true p10;replace q10:=eq_true q10;have n_:=Aside0.mk (Kd.R_mono (ok':=(fun k_ => some k_ ≠ (v225 : Value).ownBlock ∧ some k_ ≠ (v228 : Value).ownBlock ∧ some k_ ≠ (v231 : Value).ownBlock)) HO_3.out (fun k_ hk => ⟨hk.1.1.2,⟨hk.1.2,hk.2⟩⟩));clear HO_3;have HO_3:=n_;clear n_;have HX12:=Aside0.mk (show Kd.R k55 55 w11 w.heap.size (fun _ => True) (.slice (some ⟨go10,0,none⟩) x3_1.length co10) x3_1 from (Up.Rq (Kd.R_mono HO_3.out (fun _ hk => trivial))));obtain ⟨ce12,hcl12,hM12,hcc12,hfr12⟩:=Kd.R_elem HX12.out z55 (x4_1 : Int) (of_decide_eq_true (by first | (with_reducible assumption) | assumption)) (by have h_ : (x4_1 : Int) < ((x3_1.length : Int) : Int):=of_decide_eq_true (by first | (with_reducible assumption) | assumption);first | exact h_ | (have e_:=(Kd.R_reads' HO_3.out).1;omega) | simpa using h_);obtain ⟨ve12_0,ve12_1,ve12_2,rfl,ge12_0,ge12_1,ge12_2⟩:=k55_openM hM12;have HP12:=Kd.R_seg HX12.out (x4_1 : Int) (of_decide_eq_true (by first | (with_reducible assumption) | assumption)) (by have h_ : (x4_1 : Int) < ((x3_1.length : Int) : Int):=of_decide_eq_true (by first | (with_reducible assumption) | assumption);first | exact h_ | (have e_:=(Kd.R_reads' HO_3.out).1;omega) | simpa using h_) (seg:=[v225,v228,v231]) (j:=0) hcl12 hcc12 (show 3 ≤ 3 from by decide) (x':=(⟨t224,t227,t230⟩ : S55)) (k55_mkM _ _ _ (⟨t224,t227,t230⟩ : S55) (Kd.R_mono (Kd.R_apart' ((Kd.S_R HO226.out)) (Kd.R_typed HO_3.out) (by decide)) (fun k_ hk => ⟨trivial,fun e_ => (hk.2) (by rw [e_];rfl)⟩)) (Kd.R_mono (Kd.R_apart' ((Kd.S_R HO229.out)) (Kd.R_typed HO_3.out) (by decide)) (fun k_ hk => ⟨trivial,fun e_ => (hk.2) (by rw [e_];rfl)⟩)) (Kd.R_mono (Kd.R_apart' (HO232.out) (Kd.R_typed HO_3.out) (by decide)) (fun k_ hk => ⟨trivial,fun e_ => (hk.2) (by rw [e_];rfl)⟩))) (fun _ hk => hk);have hx12_0:=hcc12 0 _ rfl;(try simp only [show (k55).sz = 3 from rfl,Nat.mul_one,Nat.add_zero] at hx12_0);have hf12_0:=hfr12 0;(try simp only [show (k55).sz = 3 from rfl,Nat.mul_one,Nat.add_zero] at hf12_0);have hx12_1:=hcc12 1 _ rfl;(try simp only [show (k55).sz = 3 from rfl,Nat.mul_one,Nat.add_zero] at hx12_1);have hf12_1:=hfr12 1;(try simp only [show (k55).sz = 3 from rfl,Nat.mul_one,Nat.add_zero] at hf12_1);have hx12_2:=hcc12 2 _ rfl;(try simp only [show (k55).sz = 3 from rfl,Nat.mul_one,Nat.add_zero] at hx12_2);have hf12_2:=hfr12 2;(try simp only [show (k55).sz = 3 from rfl,Nat.mul_one,Nat.add_zero] at hf12_2);clear hcl12 hcc12 hfr12 hM12) | ((with_reducible refine gate_store (t:=55) (p:=21) rfl ?_);refine store_event (t:=55) (p:=21) (v:=?vo_w13) (w1:=(((w11.setCell ⟨go10,(x4_1 : Int).toNat * 3,none⟩ (v225)).setCell ⟨go10,(x4_1 : Int).toNat * 3 + 1,none⟩ (v228)).setCell ⟨go10,(x4_1 : Int).toNat * 3 + 2,none⟩ (v231))) ?hg ?ho ?hn ?hr ?_;(case ho => rfl);(case hg => rfl);(case hn => rfl);(case hr => first | (go_simp;done) | (go_simp;rfl));intro w13 hw;have hg : w11.grownBy w13 (some go10):=(by rw [hw];exact HP12.2);have hp_ : Kd.R k55 55 w13 w.heap.size (fun _ => True) (.slice (some ⟨go10,0,none⟩) x3_1.length co10) y233:=(by rw [hw,Ny233.out];exact HP12.1);clear HP12;have n0_:=Aside0.mk (hp_);have n1_:=Aside0.mk ((by rw [hw];exact below_set (below_set (below_set (HB.out) GB10.out) GB10.out) GB10.out : Below w.heap.size w w13));clear HO_3;clear HB;clear HO226;clear HO229;clear HO232;have HO_3:=n0_;have HB:=n1_;clear n0_ n1_;clear hg hw hp_))
        go_roundg k1
        case measure => have:=HK1.out;omega
        case rel => exact ⟨(y233),(wrap64 (x4_1 + 1)),(by first | rfl | (simp;done) | (simp [*];done)),H',⟨by have:=HK1.out;omega⟩,⟨Up.Rup HO_3⟩,⟨Up.Bup HB⟩⟩
       ·rw [if_neg c9] at H
        exact absurd H (by simp)
      ·rw [if_neg c7] at H
       exact absurd H (by simp)
     ·rw [if_neg c6] at H
      have c6b0 : decide (x4_1 < (l0.length : Int)) = false:=decide_eq_false c6
      clear c6
      obtain rfl:=Option.some.inj H
      go_wp2
      go_ret
      exact ⟨_,by first | rfl | (simp [errW_none,errW_some] <;> rfl) | (simp [*,errW_none,errW_some] <;> rfl),Up.Rup HO_3,Up.Bup HB⟩
  ·rw [if_neg c3] at H
   exact absurd H (by simp)
 ·rw [if_neg c2] at H
  exact absurd H (by simp)

/-! ### slices_Clip_string_string: function 65 -/
def slices_Clip_string_string.f (l0 : List ByteArray) : Option (List ByteArray) := some l0
set_option maxHeartbeats 8000000 in
set_option maxRecDepth 100000 in
theorem slices_Clip_string_string.calls (P0_ : Nat → Prop) (A0 : Option Addr) (c0 : Nat) (l0 : List ByteArray) (r : List ByteArray) (w : World) (hs0 : Kd.V Kd.string 9 w w.heap.size (fun k_ => P0_ k_) (.slice A0 l0.length c0) l0) (h : slices_Clip_string_string.f l0 = some r) :
    Calls Try.prog 65 #[.slice A0 l0.length c0] w fun e w' => ∃ v1_ : Value, e = .returned v1_ ∧ Kd.V Kd.string 9 w' w.heap.size (fun k_ => (P0_ k_ ∨ w.heap.size ≤ k_)) v1_ r ∧ Below w.heap.size w w' := by
  obtain rfl := Option.some.inj h
  obtain ⟨_, hc, hf⟩ := Kd.V_at hs0
  have HF := Aside0.mk hf
  clear hs0 h hf
  obtain ⟨i0, hi0, _, hsz, _⟩ := info_parts info9
  have hcut : ∀ W : World, (Instr.slice 35 (.slice A0 l0.length c0) none (some (.int .i64 (l0.length : Int))) (some (.int .i64 (l0.length : Int)))).run Try.prog W = .ok (.slice A0 l0.length l0.length) W := by
    intro W
    have ht := Try.underlying35
    have hel : Try.prog.elem 35 = 9 := by simp [Program.elem, ht]
    have hu : Try.prog.underlying 35 = some (.slice (Try.prog.elem 35)) := by rw [hel]; exact ht
    have ha : (A0.map fun x => x.add 0) = A0 := by cases A0 <;> simp [Addr.add]
    rw [run_slice_hm W 35 A0 l0.length c0 hu .i64 .i64 l0.length l0.length (by omega) (by omega) (by omega), hel]
    simp [sizeOf, typeInfo, hi0, sliced, Result.andThen, ha]
  clear hc
  go_enter Try.func65, Try.ntmps65
  go_wp2
  go_ret
  exact ⟨_, rfl, ⟨A0, l0.length, rfl, Nat.le_refl _, Kd.F_mono (by (with_reducible repeat (first | apply Kd.F_alloc | apply Kd.F_drewN | apply Kd.F_drew)); exact HF.out) (fun k_ hk => .inl hk)⟩, by repeat (first | (with_reducible first | exact Below.refl _ _ | apply below_alloc | apply pw_below_drewN | apply below_drew1) | exact Below.refl _ _)⟩

/-! ### impl_copyTexts: function 54 -/
def impl_copyTexts.f (l0 : List ByteArray) : Option (List ByteArray):=(some (([] : List ByteArray) : List ByteArray)).bind fun y234 => (if y234.length + l0.length < 8796093022208 then ((slices_Clip_string_string.f (y234 ++ l0)).bind fun t240 => (some t240)) else (none))
set_option maxHeartbeats 8000000 in
set_option maxRecDepth 100000 in
theorem impl_copyTexts.calls (A0 : Option Addr) (c0 : Nat) (l0 : List ByteArray) (r : List ByteArray) (w : World) (hr0 : Kd.C Kd.string w A0 l0.length l0) (hc0 : l0.length ≤ c0) (h : impl_copyTexts.f l0 = some r) :
  Calls Try.prog 54 #[.slice A0 l0.length c0] w fun e w' => ∃ v0_ : Value,e = .returned (v0_) ∧ Kd.V Kd.string 9 w' w.heap.size (fun k_ => (w.heap.size ≤ k_)) v0_ r ∧ Below w.heap.size w w':=by
 have HR0:=Aside0.mk hr0
 have HC0:=Aside0.mk hc0
 clear hr0 hc0
 have HB:=Aside0.mk (Below.refl w.heap.size w)
 have H : ((some (([] : List ByteArray) : List ByteArray)).bind fun y234 => (if y234.length + l0.length < 8796093022208 then ((slices_Clip_string_string.f (y234 ++ l0)).bind fun t240 => (some t240)) else (none))) = some r:=h
 clear h
 obtain ⟨y234,hy234⟩ : ∃ y_ : List ByteArray,y_ = (([] : List ByteArray)):=⟨_,rfl⟩
 replace H : (if y234.length + l0.length < 8796093022208 then ((slices_Clip_string_string.f (y234 ++ l0)).bind fun t240 => (some t240)) else (none)) = some r:=by first | (rw [hy234];with_reducible exact H) | (have H2_:=(Option.bind_some _ _).symm.trans H;rw [hy234];with_reducible exact H2_) | (have H2_:=(Option.bind_some _ _).symm.trans H;with_reducible exact H2_) | with_reducible exact H | (rw [hy234];exact H) | exact H
 have Ny234:=Aside0.mk hy234
 clear hy234
 by_cases c2 : y234.length + l0.length < 8796093022208
 ·rw [if_pos c2] at H
  have LMc2:=Aside0.mk c2
  clear c2
  obtain ⟨y237,hy237⟩ : ∃ y_ : List ByteArray,y_ = (y234 ++ l0):=⟨_,rfl⟩
  replace H : ((slices_Clip_string_string.f y237).bind fun t240 => (some t240)) = some r:=by first | (rw [hy237];with_reducible exact H) | (have H2_:=(Option.bind_some _ _).symm.trans H;rw [hy237];with_reducible exact H2_) | (have H2_:=(Option.bind_some _ _).symm.trans H;with_reducible exact H2_) | with_reducible exact H | (rw [hy237];exact H) | exact H
  have Ny237:=Aside0.mk hy237
  clear hy237
  replace H:=Option.bind_eq_some_iff.mp H
  obtain ⟨t240,A30,H⟩:=H
  replace H : (some t240) = some r:=H
  have A3:=Aside0.mk A30
  clear A30
  obtain rfl:=Option.some.inj H
  go_enter Try.func54,Try.ntmps54
  go_wp2_with (first | ((with_reducible refine gate_dst (N:=3) rfl ?_);refine Kd.R_lit Kd.string _ 9 ?hg (N:=3) ?hd (xs:=([] : List ByteArray)) (inner:=[]) (ok:=fun _ => True) (okp:=fun _ => True) ?hr ?hp (fun _ hk => hk) trivial (Below.refl _ _) (Nat.le_refl _) (by simp) ?_;(case hd => rfl);(case hg => rfl);(case hr => first | (go_simp;done) | (go_simp;rfl));(case hp => exact (Reps.none _ _));intro v235 w4 ho5 hb hg_ hnew_;clear hg_ hnew_;(first | rw [← Ny234.out] at ho5 | (simp only [Int.reduceToNat] at ho5;rw [← Ny234.out] at ho5));have n0_:=Aside0.mk (Kd.R_lower (Kd.R_newM (M:=fun k_ => (w.heap.size ≤ k_)) ho5 (below_size (Up.Bup HB)) (fun k_ h_ => h_)) (below_size (Up.Bup HB)));have n1_:=Up.BB HB hb;clear HB;have HO236:=n0_;have HB:=n1_;clear n0_ n1_;clear hb ho5) | ((with_reducible refine gate_builtin (b:=.append) (xs:=#[.tmp 3,.tmp 4]) rfl ?_);at_builtin;refine Kd.R_append_rows Kd.string (w0:=w) w.heap.size rfl (.tmp 3) (.tmp 4) 35 9 (.string ⟨#[]⟩) 16 rfl Try.underlying35 info9 rfl (by decide) (by omega) v235 y234 l0 _ _ _ (fun k_ => (w.heap.size ≤ k_)) (fun _ => False) rfl rfl ?aO ?aR (fun _ _ h => h) (fun _ h => h.elim) ?aF ?aB ?aS ?aL ?_;(case aR => repeat (first | exact (Kd.C_below HR0.out HB.out) | (with_reducible refine Kd.C_alloc ?_ _) | (with_reducible refine Kd.C_drewN ?_ _) | (with_reducible refine Kd.C_drew ?_)));(case aB => exact (Up.Bup HB));(case aF => exact (fun k_ hk => (Nat.le_trans (below_size (Up.Bup HB)) hk)));(case aO => exact (Up.Rq (Kd.R_mono HO236.out (fun _ hk => hk.1))));(case aS => exact (below_size (Up.Bup HB)));(case aL => have:=LMc2.out;omega);intro v238 w6 ho hb hg hat;rw [← Ny237.out] at ho;have n0_:=Aside0.mk (hb);have n1_:=Aside0.mk (ho);clear HB;clear HO236;have HB:=n0_;have HO239:=n1_;clear n0_ n1_;clear ho hb hg hat;obtain ⟨Ao7,co7,eo7⟩:=Kd.R_slice HO239.out;subst eo7) | ((with_reducible refine gate_callee (f:=65) rfl ?_);refine goesL_ (some 6) rfl rfl Try.func65 (by kernel_rfl) rfl #[.slice Ao7 y237.length co7] rfl (by (try simp only [List.map_toArray,List.map_cons,List.map_nil]);first | done | rfl | (simp only [List.length_drop,List.length_take];rfl)) ?_;(with_reducible refine (slices_Clip_string_string.calls (fun k_ => some k_ = (.slice Ao7 y237.length co7 : Value).ownBlock) _ _ y237 t240 _ ?side1 A3.out).mono ?_);(case side1 => exact Kd.R_V (Kd.R_tight rfl (HO239.out)));rintro e w8 ⟨v241,rfl,ho0,hb⟩;refine ⟨_,rfl,?_⟩;have n0_:=Up.RB HO239 hb;have n1_:=Aside0.mk (Kd.V_lower (Kd.V_mono (ok':=fun k_ => (w.heap.size ≤ k_)) ho0 (fun k_ hk_ => Or.elim hk_ (fun hs_ => ((HO239.out).1 k_ hs_.symm)) (fun hn_ => (Nat.le_trans (below_size (Up.Bup HB)) hn_)))) (below_size (Up.Bup HB)));have n2_:=Up.BB HB hb;clear HO239;clear HB;have HO239:=n0_;have HO242:=n1_;have HB:=n2_;clear n0_ n1_ n2_;(try clear hb);(try clear hb2);(try clear hk);(try clear hi);(try clear ho0)))
  go_ret
  exact ⟨_,by first | rfl | (simp [errW_none,errW_some] <;> rfl) | (simp [*,errW_none,errW_some] <;> rfl),Up.Vup HO242,Up.Bup HB⟩
 ·rw [if_neg c2] at H
  exact absurd H (by simp)

/-! ### impl_Ins: function 57 -/
def impl_Ins.f (l0 : List (S83)) : Option (List (S83)) := some l0
set_option maxHeartbeats 8000000 in
set_option maxRecDepth 100000 in
theorem impl_Ins.calls (P0_ : Nat → Prop) (A0 : Option Addr) (c0 : Nat) (l0 : List (S83)) (r : List (S83)) (w : World) (hs0 : Kd.V k83 83 w w.heap.size (fun k_ => P0_ k_) (.slice A0 l0.length c0) l0) (h : impl_Ins.f l0 = some r) :
    Calls Try.prog 57 #[.slice A0 l0.length c0] w fun e w' => ∃ v1_ : Value, e = .returned v1_ ∧ Kd.V k83 83 w' w.heap.size (fun k_ => (P0_ k_ ∨ w.heap.size ≤ k_)) v1_ r ∧ Below w.heap.size w w' := by
  obtain rfl := Option.some.inj h
  obtain ⟨_, hc, hf⟩ := Kd.V_at hs0
  have HF := Aside0.mk hf
  clear hs0 h hf
  obtain ⟨i0, hi0, _, hsz, _⟩ := info_parts info83
  have hcut : ∀ W : World, (Instr.slice 37 (.slice A0 l0.length c0) none (some (.int .i64 (l0.length : Int))) (some (.int .i64 (l0.length : Int)))).run Try.prog W = .ok (.slice A0 l0.length l0.length) W := by
    intro W
    have ht := Try.underlying37
    have hel : Try.prog.elem 37 = 83 := by simp [Program.elem, ht]
    have hu : Try.prog.underlying 37 = some (.slice (Try.prog.elem 37)) := by rw [hel]; exact ht
    have ha : (A0.map fun x => x.add 0) = A0 := by cases A0 <;> simp [Addr.add]
    rw [run_slice_hm W 37 A0 l0.length c0 hu .i64 .i64 l0.length l0.length (by omega) (by omega) (by omega), hel]
    simp [sizeOf, typeInfo, hi0, sliced, Result.andThen, ha]
  clear hc
  go_enter Try.func57, Try.ntmps57
  go_wp2
  go_ret
  exact ⟨_, rfl, ⟨A0, l0.length, rfl, Nat.le_refl _, Kd.F_mono (by (with_reducible repeat (first | apply Kd.F_alloc | apply Kd.F_drewN | apply Kd.F_drew)); exact HF.out) (fun k_ hk => .inl hk)⟩, by repeat (first | (with_reducible first | exact Below.refl _ _ | apply below_alloc | apply pw_below_drewN | apply below_drew1) | exact Below.refl _ _)⟩

/-! ### slices_Clip_int_int: function 66 -/
def slices_Clip_int_int.f (l0 : List Int) : Option (List Int) := some l0
set_option maxHeartbeats 8000000 in
set_option maxRecDepth 100000 in
theorem slices_Clip_int_int.calls (P0_ : Nat → Prop) (A0 : Option Addr) (c0 : Nat) (l0 : List Int) (r : List Int) (w : World) (hs0 : Kd.V (Kd.int .i64) 3 w w.heap.size (fun k_ => P0_ k_) (.slice A0 l0.length c0) l0) (h : slices_Clip_int_int.f l0 = some r) :
    Calls Try.prog 66 #[.slice A0 l0.length c0] w fun e w' => ∃ v1_ : Value, e = .returned v1_ ∧ Kd.V (Kd.int .i64) 3 w' w.heap.size (fun k_ => (P0_ k_ ∨ w.heap.size ≤ k_)) v1_ r ∧ Below w.heap.size w w' := by
  obtain rfl := Option.some.inj h
  obtain ⟨_, hc, hf⟩ := Kd.V_at hs0
  have HF := Aside0.mk hf
  clear hs0 h hf
  obtain ⟨i0, hi0, _, hsz, _⟩ := info_parts info3
  have hcut : ∀ W : World, (Instr.slice 36 (.slice A0 l0.length c0) none (some (.int .i64 (l0.length : Int))) (some (.int .i64 (l0.length : Int)))).run Try.prog W = .ok (.slice A0 l0.length l0.length) W := by
    intro W
    have ht := Try.underlying36
    have hel : Try.prog.elem 36 = 3 := by simp [Program.elem, ht]
    have hu : Try.prog.underlying 36 = some (.slice (Try.prog.elem 36)) := by rw [hel]; exact ht
    have ha : (A0.map fun x => x.add 0) = A0 := by cases A0 <;> simp [Addr.add]
    rw [run_slice_hm W 36 A0 l0.length c0 hu .i64 .i64 l0.length l0.length (by omega) (by omega) (by omega), hel]
    simp [sizeOf, typeInfo, hi0, sliced, Result.andThen, ha]
  clear hc
  go_enter Try.func66, Try.ntmps66
  go_wp2
  go_ret
  exact ⟨_, rfl, ⟨A0, l0.length, rfl, Nat.le_refl _, Kd.F_mono (by (with_reducible repeat (first | apply Kd.F_alloc | apply Kd.F_drewN | apply Kd.F_drew)); exact HF.out) (fun k_ hk => .inl hk)⟩, by repeat (first | (with_reducible first | exact Below.refl _ _ | apply below_alloc | apply pw_below_drewN | apply below_drew1) | exact Below.refl _ _)⟩

/-! ### impl_copyInts: function 58 -/
def impl_copyInts.f (l0 : List Int) : Option (List Int):=(some (([] : List Int) : List Int)).bind fun y243 => (if y243.length + l0.length < 17592186044416 then ((slices_Clip_int_int.f (y243 ++ l0)).bind fun t249 => (some t249)) else (none))
set_option maxHeartbeats 8000000 in
set_option maxRecDepth 100000 in
theorem impl_copyInts.calls (A0 : Option Addr) (c0 : Nat) (l0 : List Int) (r : List Int) (w : World) (hr0 : Kd.C (Kd.int .i64) w A0 l0.length l0) (hc0 : l0.length ≤ c0) (h : impl_copyInts.f l0 = some r) :
  Calls Try.prog 58 #[.slice A0 l0.length c0] w fun e w' => ∃ v0_ : Value,e = .returned (v0_) ∧ Kd.V (Kd.int .i64) 3 w' w.heap.size (fun k_ => (w.heap.size ≤ k_)) v0_ r ∧ Below w.heap.size w w':=by
 have HR0:=Aside0.mk hr0
 have HC0:=Aside0.mk hc0
 clear hr0 hc0
 have HB:=Aside0.mk (Below.refl w.heap.size w)
 have H : ((some (([] : List Int) : List Int)).bind fun y243 => (if y243.length + l0.length < 17592186044416 then ((slices_Clip_int_int.f (y243 ++ l0)).bind fun t249 => (some t249)) else (none))) = some r:=h
 clear h
 obtain ⟨y243,hy243⟩ : ∃ y_ : List Int,y_ = (([] : List Int)):=⟨_,rfl⟩
 replace H : (if y243.length + l0.length < 17592186044416 then ((slices_Clip_int_int.f (y243 ++ l0)).bind fun t249 => (some t249)) else (none)) = some r:=by first | (rw [hy243];with_reducible exact H) | (have H2_:=(Option.bind_some _ _).symm.trans H;rw [hy243];with_reducible exact H2_) | (have H2_:=(Option.bind_some _ _).symm.trans H;with_reducible exact H2_) | with_reducible exact H | (rw [hy243];exact H) | exact H
 have Ny243:=Aside0.mk hy243
 clear hy243
 by_cases c2 : y243.length + l0.length < 17592186044416
 ·rw [if_pos c2] at H
  have LMc2:=Aside0.mk c2
  clear c2
  obtain ⟨y246,hy246⟩ : ∃ y_ : List Int,y_ = (y243 ++ l0):=⟨_,rfl⟩
  replace H : ((slices_Clip_int_int.f y246).bind fun t249 => (some t249)) = some r:=by first | (rw [hy246];with_reducible exact H) | (have H2_:=(Option.bind_some _ _).symm.trans H;rw [hy246];with_reducible exact H2_) | (have H2_:=(Option.bind_some _ _).symm.trans H;with_reducible exact H2_) | with_reducible exact H | (rw [hy246];exact H) | exact H
  have Ny246:=Aside0.mk hy246
  clear hy246
  replace H:=Option.bind_eq_some_iff.mp H
  obtain ⟨t249,A30,H⟩:=H
  replace H : (some t249) = some r:=H
  have A3:=Aside0.mk A30
  clear A30
  obtain rfl:=Option.some.inj H
  go_enter Try.func58,Try.ntmps58
  go_wp2_with (first | ((with_reducible refine gate_dst (N:=3) rfl ?_);refine Kd.R_lit (Kd.int .i64) _ 3 ?hg (N:=3) ?hd (xs:=([] : List Int)) (inner:=[]) (ok:=fun _ => True) (okp:=fun _ => True) ?hr ?hp (fun _ hk => hk) trivial (Below.refl _ _) (Nat.le_refl _) (by simp) ?_;(case hd => rfl);(case hg => rfl);(case hr => first | (go_simp;done) | (go_simp;rfl));(case hp => exact (Reps.none _ _));intro v244 w4 ho5 hb hg_ hnew_;clear hg_ hnew_;(first | rw [← Ny243.out] at ho5 | (simp only [Int.reduceToNat] at ho5;rw [← Ny243.out] at ho5));have n0_:=Aside0.mk (Kd.R_lower (Kd.R_newM (M:=fun k_ => (w.heap.size ≤ k_)) ho5 (below_size (Up.Bup HB)) (fun k_ h_ => h_)) (below_size (Up.Bup HB)));have n1_:=Up.BB HB hb;clear HB;have HO245:=n0_;have HB:=n1_;clear n0_ n1_;clear hb ho5) | ((with_reducible refine gate_builtin (b:=.append) (xs:=#[.tmp 3,.tmp 4]) rfl ?_);at_builtin;refine Kd.R_append_rows (Kd.int .i64) (w0:=w) w.heap.size rfl (.tmp 3) (.tmp 4) 36 3 (.int .i64 0) 8 rfl Try.underlying36 info3 rfl (by decide) (by omega) v244 y243 l0 _ _ _ (fun k_ => (w.heap.size ≤ k_)) (fun _ => False) rfl rfl ?aO ?aR (fun _ _ h => h) (fun _ h => h.elim) ?aF ?aB ?aS ?aL ?_;(case aR => repeat (first | exact (Kd.C_below HR0.out HB.out) | (with_reducible refine Kd.C_alloc ?_ _) | (with_reducible refine Kd.C_drewN ?_ _) | (with_reducible refine Kd.C_drew ?_)));(case aB => exact (Up.Bup HB));(case aF => exact (fun k_ hk => (Nat.le_trans (below_size (Up.Bup HB)) hk)));(case aO => exact (Up.Rq (Kd.R_mono HO245.out (fun _ hk => hk.1))));(case aS => exact (below_size (Up.Bup HB)));(case aL => have:=LMc2.out;omega);intro v247 w6 ho hb hg hat;rw [← Ny246.out] at ho;have n0_:=Aside0.mk (hb);have n1_:=Aside0.mk (ho);clear HB;clear HO245;have HB:=n0_;have HO248:=n1_;clear n0_ n1_;clear ho hb hg hat;obtain ⟨Ao7,co7,eo7⟩:=Kd.R_slice HO248.out;subst eo7) | ((with_reducible refine gate_callee (f:=66) rfl ?_);refine goesL_ (some 6) rfl rfl Try.func66 (by kernel_rfl) rfl #[.slice Ao7 y246.length co7] rfl (by (try simp only [List.map_toArray,List.map_cons,List.map_nil]);first | done | rfl | (simp only [List.length_drop,List.length_take];rfl)) ?_;(with_reducible refine (slices_Clip_int_int.calls (fun k_ => some k_ = (.slice Ao7 y246.length co7 : Value).ownBlock) _ _ y246 t249 _ ?side1 A3.out).mono ?_);(case side1 => exact Kd.R_V (Kd.R_tight rfl (HO248.out)));rintro e w8 ⟨v250,rfl,ho0,hb⟩;refine ⟨_,rfl,?_⟩;have n0_:=Up.RB HO248 hb;have n1_:=Aside0.mk (Kd.V_lower (Kd.V_mono (ok':=fun k_ => (w.heap.size ≤ k_)) ho0 (fun k_ hk_ => Or.elim hk_ (fun hs_ => ((HO248.out).1 k_ hs_.symm)) (fun hn_ => (Nat.le_trans (below_size (Up.Bup HB)) hn_)))) (below_size (Up.Bup HB)));have n2_:=Up.BB HB hb;clear HO248;clear HB;have HO248:=n0_;have HO251:=n1_;have HB:=n2_;clear n0_ n1_ n2_;(try clear hb);(try clear hb2);(try clear hk);(try clear hi);(try clear ho0)))
  go_ret
  exact ⟨_,by first | rfl | (simp [errW_none,errW_some] <;> rfl) | (simp [*,errW_none,errW_some] <;> rfl),Up.Vup HO251,Up.Bup HB⟩
 ·rw [if_neg c2] at H
  exact absurd H (by simp)

end Go.Proofs.Ytcdamcfklehedaa.OFnExactFuncSeen
