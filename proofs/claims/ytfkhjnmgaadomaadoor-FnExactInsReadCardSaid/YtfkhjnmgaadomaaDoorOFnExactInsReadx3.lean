-- Laid by a program of this session (wip/myprint.py): the kit's print of the functions, contracts of our own among them.
import Derived.Test.YtfkhjnmgaadomaaDoorOFnExactInsReadx0
import Derived.Test.YtfkhjnmgaadomaaDoorOFnExactInsReadx1
import Derived.Test.YtfkhjnmgaadomaaDoorOFnExactInsReadx2
namespace Go.Proofs.YtfkhjnmgaadomaaDoor.OFnExactInsRead
open Go.RowKit Go.Proofs.YtfkhjnmgaadomaaDoorW.PrintWords Go.Proofs.YtfkhjnmgaadomaaDoorW.PrintLast Go.Proofs.YtfkhjnmgaadomaaDoorW.PrintMore
attribute [local go_sem] max2_int min2_int max_two min_two max_three min_three max_four min_four   -- for this text's walks alone
set_option linter.unusedVariables false
set_option linter.unusedSimpArgs false

/-! ### spec_InsRead: function 25 -/
mutual
def spec_InsRead.j0 : Nat → ByteArray → List ByteArray → ByteArray → Int → Int → Option (ByteArray × Int × Int × Bool)
 | 0,_,_,_,_,_ => none
 | k + 1,x0,x4,x151000,x151001,x151002 => if (x4.length : Int) > 2 then (if 2 < (x4.length : Int) then ((spec_l3Number.f k (rdOf ByteArray.empty x4 2)).bind fun t154 => (spec_InsRead.j1 k x0 x151000 x151001 t154)) else (none)) else (spec_InsRead.j1 k x0 x151000 x151001 x151002)
def spec_InsRead.j1 : Nat → ByteArray → ByteArray → Int → Int → Option (ByteArray × Int × Int × Bool)
 | 0,_,_,_,_ => none
 | k + 1,x0,x151000,x151001,x151002 => (spec_InsOk.f k x151000 x151001 x151002).bind fun t155 => (if t155 = true then ((spec_InsText.f k x151000 x151001 x151002).bind fun t156 => (if t156.toList = x0.toList then (some (x151000,x151001,x151002,true)) else (some ((⟨#[]⟩ : ByteArray),0,0,false)))) else (some ((⟨#[]⟩ : ByteArray),0,0,false)))
end
def spec_InsRead.f (k : Nat) (a0 : ByteArray) : Option (ByteArray × Int × Int × Bool):=if (a0.size : Int) > 40 then (some ((⟨#[]⟩ : ByteArray),0,0,false)) else ((spec_l3Words.f k a0).bind fun t146 => (if 0 < (t146.length : Int) then (if (t146.length : Int) > 1 then (if 1 < (t146.length : Int) then ((spec_l3Number.f k (rdOf ByteArray.empty t146 1)).bind fun t152 => (spec_InsRead.j0 k a0 t146 (rdOf ByteArray.empty t146 0) t152 0)) else (none)) else (spec_InsRead.j0 k a0 t146 (rdOf ByteArray.empty t146 0) 0 0)) else (none)))
theorem spec_InsRead.mono_l : ∀ k,(∀ y0 y1 y2 y3 y4,LeO (spec_InsRead.j0 k y0 y1 y2 y3 y4) (spec_InsRead.j0 (k + 1) y0 y1 y2 y3 y4)) ∧ (∀ y0 y1 y2 y3,LeO (spec_InsRead.j1 k y0 y1 y2 y3) (spec_InsRead.j1 (k + 1) y0 y1 y2 y3))
 | 0 => ⟨fun _ _ _ _ _ r h => by simp [spec_InsRead.j0] at h,fun _ _ _ _ r h => by simp [spec_InsRead.j1] at h⟩
 | k + 1 => by
  obtain ⟨ih0,ih1⟩:=spec_InsRead.mono_l k
  refine ⟨?_,?_⟩
  ·intro y0 y1 y2 y3 y4
   unfold spec_InsRead.j0
   repeat' first
   | (with_reducible exact ih0 _ _ _ _ _)
   | (with_reducible exact ih1 _ _ _ _)
   | (with_reducible exact spec_InsOk.mono _ _ _ _)
   | (with_reducible exact spec_InsText.mono _ _ _ _)
   | (with_reducible exact spec_l3Number.mono _ _)
   | (with_reducible exact spec_l3Words.mono _ _)
   | (with_reducible exact LeO.refl _)
   | (with_reducible exact LeO.none _)
   | (with_reducible refine LeO.ite ?_ ?_)
   | (with_reducible refine LeO.bind ?_ (fun _ => ?_))
   | exact ih0 _ _ _ _ _
   | exact ih1 _ _ _ _
   | exact spec_InsOk.mono _ _ _ _
   | exact spec_InsText.mono _ _ _ _
   | exact spec_l3Number.mono _ _
   | exact spec_l3Words.mono _ _
   | exact LeO.none _
   | refine LeO.ite ?_ ?_
   | refine LeO.bind ?_ (fun _ => ?_)
  ·intro y0 y1 y2 y3
   unfold spec_InsRead.j1
   repeat' first
   | (with_reducible exact ih0 _ _ _ _ _)
   | (with_reducible exact ih1 _ _ _ _)
   | (with_reducible exact spec_InsOk.mono _ _ _ _)
   | (with_reducible exact spec_InsText.mono _ _ _ _)
   | (with_reducible exact spec_l3Number.mono _ _)
   | (with_reducible exact spec_l3Words.mono _ _)
   | (with_reducible exact LeO.refl _)
   | (with_reducible exact LeO.none _)
   | (with_reducible refine LeO.ite ?_ ?_)
   | (with_reducible refine LeO.bind ?_ (fun _ => ?_))
   | exact ih0 _ _ _ _ _
   | exact ih1 _ _ _ _
   | exact spec_InsOk.mono _ _ _ _
   | exact spec_InsText.mono _ _ _ _
   | exact spec_l3Number.mono _ _
   | exact spec_l3Words.mono _ _
   | exact LeO.none _
   | refine LeO.ite ?_ ?_
   | refine LeO.bind ?_ (fun _ => ?_)
theorem spec_InsRead.mono : ∀ a0 k,LeO (spec_InsRead.f k a0) (spec_InsRead.f (k + 1) a0):=by
 intro a0 k
 obtain ⟨ih0,ih1⟩:=spec_InsRead.mono_l k
 unfold spec_InsRead.f
 repeat' first
   | (with_reducible exact ih0 _ _ _ _ _)
   | (with_reducible exact ih1 _ _ _ _)
   | (with_reducible exact spec_InsOk.mono _ _ _ _)
   | (with_reducible exact spec_InsText.mono _ _ _ _)
   | (with_reducible exact spec_l3Number.mono _ _)
   | (with_reducible exact spec_l3Words.mono _ _)
   | (with_reducible exact LeO.refl _)
   | (with_reducible exact LeO.none _)
   | (with_reducible refine LeO.ite ?_ ?_)
   | (with_reducible refine LeO.bind ?_ (fun _ => ?_))
   | exact ih0 _ _ _ _ _
   | exact ih1 _ _ _ _
   | exact spec_InsOk.mono _ _ _ _
   | exact spec_InsText.mono _ _ _ _
   | exact spec_l3Number.mono _ _
   | exact spec_l3Words.mono _ _
   | exact LeO.none _
   | refine LeO.ite ?_ ?_
   | refine LeO.bind ?_ (fun _ => ?_)
set_option maxHeartbeats 8000000 in
set_option maxRecDepth 100000 in
theorem spec_InsRead.calls (k : Nat) (a0 : ByteArray) (r1 : ByteArray) (r2 : Int) (r3 : Int) (r4 : Bool) (w : World) (h : spec_InsRead.f k a0 = some (r1,r2,r3,r4)) :
  Calls Tryd.prog 25 #[.string a0] w fun e w' => e = .returned (.tuple #[.agg #[.string r1,.int .i64 r2,.int .i64 r3],.bool r4]) ∧ Below w.heap.size w w':=by
 have hu26:=Tryd.underlying26
 have HB:=Aside0.mk (Below.refl w.heap.size w)
 have H : (if (a0.size : Int) > 40 then (some ((⟨#[]⟩ : ByteArray),0,0,false)) else ((spec_l3Words.f k a0).bind fun t146 => (if 0 < (t146.length : Int) then (if (t146.length : Int) > 1 then (if 1 < (t146.length : Int) then ((spec_l3Number.f k (rdOf ByteArray.empty t146 1)).bind fun t152 => (spec_InsRead.j0 k a0 t146 (rdOf ByteArray.empty t146 0) t152 0)) else (none)) else (spec_InsRead.j0 k a0 t146 (rdOf ByteArray.empty t146 0) 0 0)) else (none)))) = some (r1,r2,r3,r4):=h
 clear h
 by_cases c2 : (a0.size : Int) > 40
 ·rw [if_pos c2] at H
  have c2b0 : decide (40 < (a0.size : Int)) = true:=decide_eq_true c2
  have c2b1 : decide (40 < a0.size) = true:=decide_eq_true (by omega)
  clear c2
  simp only [Option.some.injEq,Prod.mk.injEq] at H
  obtain ⟨rfl,rfl,rfl,rfl⟩:=H
  go_enter Tryd.func25,Tryd.ntmps25
  go_wp2_with (first | ((with_reducible refine gate_dst (N:=2) rfl ?_);refine Up.bx 2 26 #[.string (⟨#[]⟩ : ByteArray),.int .i64 0,.int .i64 0] ?_;intro gb145 hg w3 hbox hb;have n0_:=Up.BB HB hb;have n1_:=Aside0.mk (hbox);have n2_:=Up.gw hg HB;have n3_:=Up.gw hg HB;clear HB;have HB:=n0_;have BK145:=n1_;have GW145:=n2_;have GE145:=n3_;clear n0_ n1_ n2_ n3_ hb hbox hg;have hcz4_0:=Up.c0 BK145;have hcz4_1:=Up.c1 BK145;have hcz4_2:=Up.c2 BK145;have hfz4_0:=blk_frozen BK145.out 0;have hfz4_1:=blk_frozen BK145.out 1;have hfz4_2:=blk_frozen BK145.out 2))
  refine bodyPost_ret (results_ct rfl _ _ gb145 26 #[.string (⟨#[]⟩ : ByteArray),.int .i64 0,.int .i64 0] (0,0) _ rfl (Up.Kx BK145) Tryd.underlying26 rfl (by kernel_rfl)) rfl ?_
  exact Up.e1 (Up.Bx HB)
 ·rw [if_neg c2] at H
  have c2b0 : decide (40 < (a0.size : Int)) = false:=decide_eq_false c2
  have c2b1 : decide (40 < a0.size) = false:=decide_eq_false (by omega)
  clear c2
  replace H:=Option.bind_eq_some_iff.mp H
  obtain ⟨t146,A50,H⟩:=H
  replace H : (if 0 < (t146.length : Int) then (if (t146.length : Int) > 1 then (if 1 < (t146.length : Int) then ((spec_l3Number.f k (rdOf ByteArray.empty t146 1)).bind fun t152 => (spec_InsRead.j0 k a0 t146 (rdOf ByteArray.empty t146 0) t152 0)) else (none)) else (spec_InsRead.j0 k a0 t146 (rdOf ByteArray.empty t146 0) 0 0)) else (none)) = some (r1,r2,r3,r4):=H
  have A5:=Aside0.mk A50
  clear A50
  by_cases c6 : 0 < (t146.length : Int)
  ·rw [if_pos c6] at H
   have c6b0 : decide (0 < (t146.length : Int)) = true:=decide_eq_true c6
   have c6b1 : decide (0 < t146.length) = true:=decide_eq_true (by omega)
   clear c6
   have HC7:=Aside0.mk H
   clear H
   go_enter Tryd.func25,Tryd.ntmps25
   go_upto_if 18 with (first | ((with_reducible refine gate_dst (N:=2) rfl ?_);refine Up.bx 2 26 #[.string (⟨#[]⟩ : ByteArray),.int .i64 0,.int .i64 0] ?_;intro gb145 hg w8 hbox hb;have n0_:=Up.BB HB hb;have n1_:=Aside0.mk (hbox);have n2_:=Up.gw hg HB;have n3_:=Up.gw hg HB;clear HB;have HB:=n0_;have BK145:=n1_;have GW145:=n2_;have GE145:=n3_;clear n0_ n1_ n2_ n3_ hb hbox hg) | ((with_reducible refine gate_callee (f:=45) rfl ?_);refine Up.gl (some 11) Tryd.func45 #[.string a0] ?_;(with_reducible refine (spec_l3Words.calls k a0 t146 _ A5.out).mono ?_);rintro e w9 ⟨v147,rfl,ho0,hb⟩;refine ⟨_,rfl,?_⟩;have n0_:=Aside0.mk (Kd.R_lower ho0 (below_size (Up.Bx HB)));have n1_:=Up.KB BK145 hb;have n2_:=Aside0.mk (below_step (Up.Bx HB) hb);clear BK145 HB;have HO148:=n0_;have BK145:=n1_;have HB:=n2_;clear n0_ n1_ n2_;(try clear hb);(try clear hb2);(try clear hk);(try clear hi);(try clear ho0);obtain ⟨Ao10,co10,eo10⟩:=Kd.R_slice HO148.out;subst eo10;have p149 : 0 ≤ (0 : Int):=(by omega);have q149 : 0 < (t146.length : Int):=Up.od;obtain ⟨ad149,e149,hx149_0⟩:=Kd.at_string (Kd.R_reads' HO148.out).2.2 0 p149 q149;cases e149;have qi149 : (0 < t146.length) = True:=eq_true (by omega);(try rw [show ((0 : Int)).toNat = 0 from rfl] at hx149_0);(try rw [Addr.add_zero'] at hx149_0);replace p149:=eq_true p149;replace q149:=eq_true q149) | ((with_reducible refine gate_dst (N:=5) rfl ?_);refine Up.bx 5 26 #[.string (⟨#[]⟩ : ByteArray),.int .i64 0,.int .i64 0] ?_;intro gb150 hg w11 hbox hb;have n0_:=Up.RB HO148 hb;have n1_:=Up.KB BK145 hb;have n2_:=Aside0.mk (below_step (Up.Bx HB) hb);have n3_:=Aside0.mk (hbox);have n4_:=Up.gw hg HB;have n5_:=Up.gw hg HB;have n6_:=Up.nl hg BK145;have n7_:=Up.ng hg BK145;clear HO148 BK145 HB;have HO148:=n0_;have BK145:=n1_;have HB:=n2_;have BK150:=n3_;have GW150:=n4_;have GE150:=n5_;have NB145_150:=n6_;have NB150_145:=n7_;clear n0_ n1_ n2_ n3_ n4_ n5_ n6_ n7_ hb hbox hg;have hnb12:=NB150_145.out;have hnc12:=NB145_150.out;have hcz13_0:=Up.c0 BK150;have hcz13_1:=Up.c1 BK150;have hcz13_2:=Up.c2 BK150;have hfz13_0:=blk_frozen BK150.out 0;have hfz13_1:=blk_frozen BK150.out 1;have hfz13_2:=blk_frozen BK150.out 2))
   (try simp only [Act.put,List.setIfInBounds_toArray,List.set_cons_zero,List.set_cons_succ])
   go_cut [] (fun wc => ∃ (kq : Nat) (x151001_6 : Int),Aside0 (spec_InsRead.j0 kq a0 t146 (rdOf ByteArray.empty t146 0) x151001_6 0 = some (r1,r2,r3,r4)) ∧ Aside0 (kq ≤ k) ∧ Aside0 (Kd.R Kd.string 9 wc w.heap.size (fun _ => True) (.slice (some ad149) t146.length co10) t146) ∧ Aside0 (wc.heap[gb145]? = some (.cells #[.string (⟨#[]⟩ : ByteArray),.int .i64 0,.int .i64 0] 26 (0,0))) ∧ Aside0 (wc.heap[gb150]? = some (.cells #[.string (rdOf ByteArray.empty t146 0),.int .i64 x151001_6,.int .i64 0] 26 (0,0))) ∧ Aside0 (Below w.heap.size w wc))
   case first =>
    have H:=HC7.out
    clear HC7
    by_cases c14 : (t146.length : Int) > 1
    ·rw [if_pos c14] at H
     have c14b0 : decide (1 < (t146.length : Int)) = true:=decide_eq_true c14
     have c14b1 : decide (1 < t146.length) = true:=decide_eq_true (by omega)
     clear c14
     (first | rw [c14b0] | (simp only [i64_w,i32_w];rw [c14b0]) | skip)
     by_cases c15 : 1 < (t146.length : Int)
     ·rw [if_pos c15] at H
      have c15b0 : decide (1 < (t146.length : Int)) = true:=decide_eq_true c15
      have c15b1 : decide (1 < t146.length) = true:=decide_eq_true (by omega)
      clear c15
      replace H:=Option.bind_eq_some_iff.mp H
      obtain ⟨t152,A160,H⟩:=H
      replace H : (spec_InsRead.j0 k a0 t146 (rdOf ByteArray.empty t146 0) t152 0) = some (r1,r2,r3,r4):=H
      have A16:=Aside0.mk A160
      clear A160
      have H':=Aside0.mk H
      clear H
      have p151 : 0 ≤ (1 : Int):=(by omega)
      have q151 : 1 < (t146.length : Int):=Up.od
      obtain ⟨ad151,e151,hx151_0⟩:=Kd.at_string (Kd.R_reads' HO148.out).2.2 1 p151 q151
      obtain rfl : ad149 = ad151:=(by injection e151)
      (try simp only [show (1 : Int).toNat = 1 from rfl,Nat.reduceMul,Nat.reduceEqDiff,Go.Addr.add,↓reduceIte] at hx151_0)
      have qi151 : (1 < t146.length) = True:=eq_true (by omega)
      (try rw [show ((1 : Int)).toNat = 1 from rfl] at hx151_0)
      have hn151_0 : ad149.block ≠ gb150:=Kd.own_blk (Kd.R_ne HO148.out BK150.out (by decide))
      have hn151_1 : ad149.block ≠ gb150:=Kd.own_blk (Kd.R_ne HO148.out BK150.out (by decide))
      have hn151_2 : ad149.block ≠ gb150:=Kd.own_blk (Kd.R_ne HO148.out BK150.out (by decide))
      replace hx151_0:=(cell_far (p:=⟨gb150,0,none⟩) (by first | (rw [add_block];exact hn151_0) | (show (Addr.add _ _).block ≠ _;rw [add_block];exact hn151_0) | exact hn151_0) (.string (rdOf ByteArray.empty t146 0))).trans hx151_0
      replace hx151_0:=(cell_far (p:=⟨gb150,1,none⟩) (by first | (rw [add_block];exact hn151_1) | (show (Addr.add _ _).block ≠ _;rw [add_block];exact hn151_1) | exact hn151_1) (.int .i64 0)).trans hx151_0
      replace hx151_0:=(cell_far (p:=⟨gb150,2,none⟩) (by first | (rw [add_block];exact hn151_2) | (show (Addr.add _ _).block ≠ _;rw [add_block];exact hn151_2) | exact hn151_2) (.int .i64 0)).trans hx151_0
      clear hn151_0
      clear hn151_1
      clear hn151_2
      replace p151:=eq_true p151
      replace q151:=eq_true q151
      go_wp2_with (first | ((with_reducible refine gate_callee (f:=46) rfl ?_);refine Up.gl (some 22) Tryd.func46 #[.string (rdOf ByteArray.empty t146 1)] ?_;(with_reducible refine (spec_l3Number.calls k (rdOf ByteArray.empty t146 1) t152 _ A16.out).mono ?_);rintro e w' ⟨rfl,⟨nd,rfl⟩⟩;refine ⟨_,rfl,?_⟩;have hnb17:=NB150_145.out;have hnc17:=NB145_150.out;have hcz18_0:=Up.c0 BK150;have hcz18_1:=Up.c1 BK150;have hcz18_2:=Up.c2 BK150;have hfz18_0:=blk_frozen BK150.out 0;have hfz18_1:=blk_frozen BK150.out 1;have hfz18_2:=blk_frozen BK150.out 2))
      go_meet
      case rel => exact ⟨_,(t152),H',⟨by first | omega | exact Nat.le_refl _⟩,⟨by (with_reducible repeat (first | apply Kd.R_alloc | apply Kd.R_drewN | apply Kd.R_drew));exact Kd.R_mono (Kd.R_far (p:=⟨gb150,1,none⟩) (Kd.R_far (p:=⟨gb150,2,none⟩) (Kd.R_far (p:=⟨gb150,1,none⟩) (Kd.R_far (p:=⟨gb150,0,none⟩) (Kd.R_types HO148.out BK150.out (by decide)) (fun _ hk => hk.2) (.string (rdOf ByteArray.empty t146 0))) (fun _ hk => hk.2) (.int .i64 0)) (fun _ hk => hk.2) (.int .i64 0)) (fun _ hk => hk.2) (.int .i64 t152)) (fun _ hk => trivial)⟩,⟨by (with_reducible repeat (first | refine blk_drewN ?_ _ | refine blk_drew ?_ | refine blk_alloc ?_ _));refine blk_far ?_ NB145_150.out _;(with_reducible repeat (first | refine blk_drewN ?_ _ | refine blk_drew ?_ | refine blk_alloc ?_ _));refine blk_far ?_ NB145_150.out _;(with_reducible repeat (first | refine blk_drewN ?_ _ | refine blk_drew ?_ | refine blk_alloc ?_ _));refine blk_far ?_ NB145_150.out _;(with_reducible repeat (first | refine blk_drewN ?_ _ | refine blk_drew ?_ | refine blk_alloc ?_ _));refine blk_far ?_ NB145_150.out _;(with_reducible repeat (first | refine blk_drewN ?_ _ | refine blk_drew ?_ | refine blk_alloc ?_ _));exact BK145.out⟩,⟨by (with_reducible repeat (first | refine blk_drewN ?_ _ | refine blk_drew ?_ | refine blk_alloc ?_ _));refine blk_put (cs:=#[.string (rdOf ByteArray.empty t146 0),.int .i64 0,.int .i64 0]) ?_ 1 _ rfl;(with_reducible repeat (first | refine blk_drewN ?_ _ | refine blk_drew ?_ | refine blk_alloc ?_ _));refine blk_put (cs:=#[.string (rdOf ByteArray.empty t146 0),.int .i64 0,.int .i64 0]) ?_ 2 _ rfl;(with_reducible repeat (first | refine blk_drewN ?_ _ | refine blk_drew ?_ | refine blk_alloc ?_ _));refine blk_put (cs:=#[.string (rdOf ByteArray.empty t146 0),.int .i64 0,.int .i64 0]) ?_ 1 _ rfl;(with_reducible repeat (first | refine blk_drewN ?_ _ | refine blk_drew ?_ | refine blk_alloc ?_ _));refine blk_put (cs:=#[.string (⟨#[]⟩ : ByteArray),.int .i64 0,.int .i64 0]) ?_ 0 _ rfl;(with_reducible repeat (first | refine blk_drewN ?_ _ | refine blk_drew ?_ | refine blk_alloc ?_ _));exact BK150.out⟩,⟨Up.Bx HB⟩⟩
     ·rw [if_neg c15] at H
      exact absurd H (by simp)
    ·rw [if_neg c14] at H
     have c14b0 : decide (1 < (t146.length : Int)) = false:=decide_eq_false c14
     have c14b1 : decide (1 < t146.length) = false:=decide_eq_false (by omega)
     clear c14
     (first | rw [c14b0] | (simp only [i64_w,i32_w];rw [c14b0]) | skip)
     have H':=Aside0.mk H
     clear H
     go_wp2
     go_meet
     case rel => exact ⟨_,(0),H',⟨by first | omega | exact Nat.le_refl _⟩,⟨by (with_reducible repeat (first | apply Kd.R_alloc | apply Kd.R_drewN | apply Kd.R_drew));exact Kd.R_mono (Kd.R_far (p:=⟨gb150,2,none⟩) (Kd.R_far (p:=⟨gb150,1,none⟩) (Kd.R_far (p:=⟨gb150,0,none⟩) (Kd.R_types HO148.out BK150.out (by decide)) (fun _ hk => hk.2) (.string (rdOf ByteArray.empty t146 0))) (fun _ hk => hk.2) (.int .i64 0)) (fun _ hk => hk.2) (.int .i64 0)) (fun _ hk => trivial)⟩,⟨by (with_reducible repeat (first | refine blk_drewN ?_ _ | refine blk_drew ?_ | refine blk_alloc ?_ _));refine blk_far ?_ NB145_150.out _;(with_reducible repeat (first | refine blk_drewN ?_ _ | refine blk_drew ?_ | refine blk_alloc ?_ _));refine blk_far ?_ NB145_150.out _;(with_reducible repeat (first | refine blk_drewN ?_ _ | refine blk_drew ?_ | refine blk_alloc ?_ _));refine blk_far ?_ NB145_150.out _;(with_reducible repeat (first | refine blk_drewN ?_ _ | refine blk_drew ?_ | refine blk_alloc ?_ _));exact BK145.out⟩,⟨by (with_reducible repeat (first | refine blk_drewN ?_ _ | refine blk_drew ?_ | refine blk_alloc ?_ _));refine blk_put (cs:=#[.string (rdOf ByteArray.empty t146 0),.int .i64 0,.int .i64 0]) ?_ 2 _ rfl;(with_reducible repeat (first | refine blk_drewN ?_ _ | refine blk_drew ?_ | refine blk_alloc ?_ _));refine blk_put (cs:=#[.string (rdOf ByteArray.empty t146 0),.int .i64 0,.int .i64 0]) ?_ 1 _ rfl;(with_reducible repeat (first | refine blk_drewN ?_ _ | refine blk_drew ?_ | refine blk_alloc ?_ _));refine blk_put (cs:=#[.string (⟨#[]⟩ : ByteArray),.int .i64 0,.int .i64 0]) ?_ 0 _ rfl;(with_reducible repeat (first | refine blk_drewN ?_ _ | refine blk_drew ?_ | refine blk_alloc ?_ _));exact BK150.out⟩,⟨Up.Bx HB⟩⟩
   case rest =>
    clear HC7
    try clear c1
    try clear p1
    try clear q1
    try clear hx1
    try clear qi1
    try clear c2
    try clear c2b0
    try clear c2b1
    try clear p2
    try clear c4
    try clear c6
    try clear c6b0
    try clear c6b1
    try clear c12
    try clear c14
    try clear c14b0
    try clear c14b1
    try clear p14
    try clear q14
    try clear hx14
    try clear qi14
    try clear c15
    try clear c15b0
    try clear c15b1
    try clear p15
    try clear q15
    try clear hx15
    try clear qi15
    try clear c17
    try clear hcz13_0
    try clear hcz13_1
    try clear hcz13_2
    try clear hcz18_0
    try clear hcz18_1
    try clear hcz18_2
    try clear hcz4_0
    try clear hcz4_1
    try clear hcz4_2
    try clear hfz13_0
    try clear hfz13_1
    try clear hfz13_2
    try clear hfz18_0
    try clear hfz18_1
    try clear hfz18_2
    try clear hfz4_0
    try clear hfz4_1
    try clear hfz4_2
    try clear hx149_0
    try clear hx151_0
    try clear p149
    try clear p151
    try clear q149
    try clear q151
    obtain ⟨kq,x151001_6,HA,HJ6,HO_4,BK145,BK150,HB⟩:=hcut
    cases kq with
    | zero => exact absurd HA.out (by simp [spec_InsRead.j0])
    | succ kj6 =>
     have H:=HA.out
     clear HA
     simp only [spec_InsRead.j0] at H
     have HC19:=Aside0.mk H
     clear H
     go_upto_if 26 with (fail)
     go_cut [] (fun wc => ∃ (kq : Nat) (x151002_18 : Int),Aside0 (spec_InsRead.j1 kq a0 (rdOf ByteArray.empty t146 0) x151001_6 x151002_18 = some (r1,r2,r3,r4)) ∧ Aside0 (kq ≤ kj6) ∧ Aside0 (wc.heap[gb145]? = some (.cells #[.string (⟨#[]⟩ : ByteArray),.int .i64 0,.int .i64 0] 26 (0,0))) ∧ Aside0 (wc.heap[gb150]? = some (.cells #[.string (rdOf ByteArray.empty t146 0),.int .i64 x151001_6,.int .i64 x151002_18] 26 (0,0))) ∧ Aside0 (Below w.heap.size w wc))
     case first =>
      have H:=HC19.out
      clear HC19
      by_cases c20 : (t146.length : Int) > 2
      ·rw [if_pos c20] at H
       have c20b0 : decide (2 < (t146.length : Int)) = true:=decide_eq_true c20
       have c20b1 : decide (2 < t146.length) = true:=decide_eq_true (by omega)
       clear c20
       (first | rw [c20b0] | (simp only [i64_w,i32_w];rw [c20b0]) | skip)
       by_cases c21 : 2 < (t146.length : Int)
       ·rw [if_pos c21] at H
        have c21b0 : decide (2 < (t146.length : Int)) = true:=decide_eq_true c21
        have c21b1 : decide (2 < t146.length) = true:=decide_eq_true (by omega)
        clear c21
        replace H:=Option.bind_eq_some_iff.mp H
        obtain ⟨t154,A220,H⟩:=H
        replace H : (spec_InsRead.j1 kj6 a0 (rdOf ByteArray.empty t146 0) x151001_6 t154) = some (r1,r2,r3,r4):=H
        have A22:=Aside0.mk A220
        clear A220
        have H':=Aside0.mk H
        clear H
        have p153 : 0 ≤ (2 : Int):=(by omega)
        have q153 : 2 < (t146.length : Int):=Up.od
        obtain ⟨ad153,e153,hx153_0⟩:=Kd.at_string (Kd.R_reads' HO_4.out).2.2 2 p153 q153
        obtain rfl : ad149 = ad153:=(by injection e153)
        (try simp only [show (2 : Int).toNat = 2 from rfl,Nat.reduceMul,Nat.reduceEqDiff,Go.Addr.add,↓reduceIte] at hx153_0)
        have qi153 : (2 < t146.length) = True:=eq_true (by omega)
        (try rw [show ((2 : Int)).toNat = 2 from rfl] at hx153_0)
        replace p153:=eq_true p153
        replace q153:=eq_true q153
        go_wp2_with (first | ((with_reducible refine gate_callee (f:=46) rfl ?_);refine Up.gl (some 30) Tryd.func46 #[.string (rdOf ByteArray.empty t146 2)] ?_;(with_reducible refine (spec_l3Number.calls kj6 (rdOf ByteArray.empty t146 2) t154 _ A22.out).mono ?_);rintro e w' ⟨rfl,⟨nd,rfl⟩⟩;refine ⟨_,rfl,?_⟩;(try (rw [drewN_self wc];generalize hq_ : World.drewN wc _ = wc;have n0_ : Aside0 (Kd.R Kd.string 9 wc w.heap.size (fun _ => True) (.slice (some ad149) t146.length co10) t146):=⟨by rw [← hq_];exact (Up.Rup HO_4)⟩;have n1_ : Aside0 (wc.heap[gb145]? = some (.cells #[.string (⟨#[]⟩ : ByteArray),.int .i64 0,.int .i64 0] 26 (0,0))):=⟨by rw [← hq_];exact (Up.Kup BK145)⟩;have n2_ : Aside0 (wc.heap[gb150]? = some (.cells #[.string (rdOf ByteArray.empty t146 0),.int .i64 x151001_6,.int .i64 0] 26 (0,0))):=⟨by rw [← hq_];exact (Up.Kup BK150)⟩;have n3_ : Aside0 (Below w.heap.size w wc):=⟨by rw [← hq_];exact (Up.Bx HB)⟩;clear HO_4 BK145 BK150 HB hq_;have HO_4:=n0_;have BK145:=n1_;have BK150:=n2_;have HB:=n3_;clear n0_ n1_ n2_ n3_));have hnb23:=NB150_145.out;have hnc23:=NB145_150.out;have hcz24_0:=Up.c0 BK150;have hcz24_1:=Up.c1 BK150;have hcz24_2:=Up.c2 BK150;have hfz24_0:=blk_frozen BK150.out 0;have hfz24_1:=blk_frozen BK150.out 1;have hfz24_2:=blk_frozen BK150.out 2))
        go_meet
        case rel => exact ⟨_,(t154),H',⟨by have:=HJ6.out;first | omega | exact Nat.le_refl _⟩,⟨by (with_reducible repeat (first | refine blk_drewN ?_ _ | refine blk_drew ?_ | refine blk_alloc ?_ _));refine blk_far ?_ NB145_150.out _;(with_reducible repeat (first | refine blk_drewN ?_ _ | refine blk_drew ?_ | refine blk_alloc ?_ _));exact BK145.out⟩,⟨by (with_reducible repeat (first | refine blk_drewN ?_ _ | refine blk_drew ?_ | refine blk_alloc ?_ _));refine blk_put (cs:=#[.string (rdOf ByteArray.empty t146 0),.int .i64 x151001_6,.int .i64 0]) ?_ 2 _ rfl;(with_reducible repeat (first | refine blk_drewN ?_ _ | refine blk_drew ?_ | refine blk_alloc ?_ _));exact BK150.out⟩,⟨Up.Bx HB⟩⟩
       ·rw [if_neg c21] at H
        exact absurd H (by simp)
      ·rw [if_neg c20] at H
       have c20b0 : decide (2 < (t146.length : Int)) = false:=decide_eq_false c20
       have c20b1 : decide (2 < t146.length) = false:=decide_eq_false (by omega)
       clear c20
       (first | rw [c20b0] | (simp only [i64_w,i32_w];rw [c20b0]) | skip)
       have H':=Aside0.mk H
       clear H
       go_wp2
       go_meet
       case rel => exact ⟨_,(0),H',⟨by have:=HJ6.out;first | omega | exact Nat.le_refl _⟩,⟨by (with_reducible repeat (first | refine blk_drewN ?_ _ | refine blk_drew ?_ | refine blk_alloc ?_ _));exact BK145.out⟩,⟨by (with_reducible repeat (first | refine blk_drewN ?_ _ | refine blk_drew ?_ | refine blk_alloc ?_ _));exact BK150.out⟩,⟨Up.Bx HB⟩⟩
     case rest =>
      clear HC19
      try clear c1
      try clear p1
      try clear q1
      try clear hx1
      try clear qi1
      try clear c2
      try clear c2b0
      try clear c2b1
      try clear p2
      try clear c4
      try clear c6
      try clear c6b0
      try clear c6b1
      try clear c12
      try clear c14
      try clear c14b0
      try clear c14b1
      try clear p14
      try clear q14
      try clear hx14
      try clear qi14
      try clear c15
      try clear c15b0
      try clear c15b1
      try clear p15
      try clear q15
      try clear hx15
      try clear qi15
      try clear c17
      try clear c20
      try clear c20b0
      try clear c20b1
      try clear c21
      try clear c21b0
      try clear c21b1
      try clear c23
      try clear hcz13_0
      try clear hcz13_1
      try clear hcz13_2
      try clear hcz18_0
      try clear hcz18_1
      try clear hcz18_2
      try clear hcz24_0
      try clear hcz24_1
      try clear hcz24_2
      try clear hcz4_0
      try clear hcz4_1
      try clear hcz4_2
      try clear hfz13_0
      try clear hfz13_1
      try clear hfz13_2
      try clear hfz18_0
      try clear hfz18_1
      try clear hfz18_2
      try clear hfz24_0
      try clear hfz24_1
      try clear hfz24_2
      try clear hfz4_0
      try clear hfz4_1
      try clear hfz4_2
      try clear hx149_0
      try clear hx151_0
      try clear hx153_0
      try clear p1
      try clear p14
      try clear p149
      try clear p15
      try clear p151
      try clear p153
      try clear p2
      try clear q1
      try clear q14
      try clear q149
      try clear q15
      try clear q151
      try clear q153
      obtain ⟨kq,x151002_18,HA,HJ18,BK145,BK150,HB⟩:=hcut
      cases kq with
      | zero => exact absurd HA.out (by simp [spec_InsRead.j1])
      | succ kj18 =>
       have H:=HA.out
       clear HA
       simp only [spec_InsRead.j1] at H
       replace H:=Option.bind_eq_some_iff.mp H
       obtain ⟨t155,A250,H⟩:=H
       replace H : (if t155 = true then ((spec_InsText.f kj18 (rdOf ByteArray.empty t146 0) x151001_6 x151002_18).bind fun t156 => (if t156.toList = a0.toList then (some ((rdOf ByteArray.empty t146 0),x151001_6,x151002_18,true)) else (some ((⟨#[]⟩ : ByteArray),0,0,false)))) else (some ((⟨#[]⟩ : ByteArray),0,0,false))) = some (r1,r2,r3,r4):=H
       have A25:=Aside0.mk A250
       clear A250
       by_cases c26 : t155 = true
       ·subst c26
        have H1 : ((spec_InsText.f kj18 (rdOf ByteArray.empty t146 0) x151001_6 x151002_18).bind fun t156 => (if t156.toList = a0.toList then (some ((rdOf ByteArray.empty t146 0),x151001_6,x151002_18,true)) else (some ((⟨#[]⟩ : ByteArray),0,0,false)))) = some (r1,r2,r3,r4):=by rw [if_pos rfl] at H;exact H
        clear H
        have H:=H1
        clear H1
        replace H:=Option.bind_eq_some_iff.mp H
        obtain ⟨t156,A270,H⟩:=H
        replace H : (if t156.toList = a0.toList then (some ((rdOf ByteArray.empty t146 0),x151001_6,x151002_18,true)) else (some ((⟨#[]⟩ : ByteArray),0,0,false))) = some (r1,r2,r3,r4):=H
        have A27:=Aside0.mk A270
        clear A270
        by_cases c28 : t156.toList = a0.toList
        ·rw [if_pos c28] at H
         have c28b0 : (t156.toList == a0.toList) = true:=beq_iff_eq.mpr c28
         have c28b1 : (t156.toList != a0.toList) = false:=bne_eq_false_iff_eq.mpr c28
         clear c28
         simp only [Option.some.injEq,Prod.mk.injEq] at H
         obtain ⟨rfl,rfl,rfl,rfl⟩:=H
         have hnb29:=NB150_145.out
         have hnc29:=NB145_150.out
         have hcz30_0:=Up.c0 BK150
         have hcz30_1:=Up.c1 BK150
         have hcz30_2:=Up.c2 BK150
         have hfz30_0:=blk_frozen BK150.out 0
         have hfz30_1:=blk_frozen BK150.out 1
         have hfz30_2:=blk_frozen BK150.out 2
         go_wp2_with (first | ((with_reducible refine gate_callee (f:=12) rfl ?_);refine Up.gl (some 33) Tryd.func12 #[.agg #[.string (rdOf ByteArray.empty t146 0),.int .i64 x151001_6,.int .i64 x151002_18]] ?_;(with_reducible refine (spec_InsOk.calls kj18 (rdOf ByteArray.empty t146 0) x151001_6 x151002_18 true _ A25.out).mono ?_);rintro e w31 ⟨rfl,hb⟩;refine ⟨_,rfl,?_⟩;have n0_:=Up.KB BK145 hb;have n1_:=Up.KB BK150 hb;have n2_:=Aside0.mk (below_step (Up.Bx HB) hb);clear BK145 BK150 HB;have BK145:=n0_;have BK150:=n1_;have HB:=n2_;clear n0_ n1_ n2_;(try clear hb);(try clear hb2);(try clear hk);(try clear hi);have hcz32_0:=Up.c0 BK150;have hcz32_1:=Up.c1 BK150;have hcz32_2:=Up.c2 BK150;have hfz32_0:=blk_frozen BK150.out 0;have hfz32_1:=blk_frozen BK150.out 1;have hfz32_2:=blk_frozen BK150.out 2) | (go_at_call 22;(with_reducible refine (spec_InsText.calls kj18 (rdOf ByteArray.empty t146 0) x151001_6 x151002_18 t156 _ A27.out).mono ?_);rintro e w33 ⟨rfl,hb⟩;have n0_:=Up.KB BK145 hb;have n1_:=Up.KB BK150 hb;have n2_:=Aside0.mk (below_step (Up.Bx HB) hb);clear BK145 BK150 HB;have BK145:=n0_;have BK150:=n1_;have HB:=n2_;clear n0_ n1_ n2_;(try clear hb);(try clear hb2);(try clear hk);(try clear hi);have hcz34_0:=Up.c0 BK150;have hcz34_1:=Up.c1 BK150;have hcz34_2:=Up.c2 BK150;have hfz34_0:=blk_frozen BK150.out 0;have hfz34_1:=blk_frozen BK150.out 1;have hfz34_2:=blk_frozen BK150.out 2;have hcz35_0:=Up.c0 BK145;have hcz35_1:=Up.c1 BK145;have hcz35_2:=Up.c2 BK145;have hfz35_0:=blk_frozen BK145.out 0;have hfz35_1:=blk_frozen BK145.out 1;have hfz35_2:=blk_frozen BK145.out 2))
         refine bodyPost_ret (results_ct rfl _ _ gb145 26 #[.string (rdOf ByteArray.empty t146 0),.int .i64 x151001_6,.int .i64 x151002_18] (0,0) _ rfl (Up.Kx BK145) Tryd.underlying26 rfl (by kernel_rfl)) rfl ?_
         exact Up.e1 (Up.Bx HB)
        ·rw [if_neg c28] at H
         have c28b0 : (t156.toList == a0.toList) = false:=beq_eq_false_iff_ne.mpr c28
         have c28b1 : (t156.toList != a0.toList) = true:=bne_iff_ne.mpr c28
         simp only [Option.some.injEq,Prod.mk.injEq] at H
         obtain ⟨rfl,rfl,rfl,rfl⟩:=H
         have hnb36:=NB150_145.out
         have hnc36:=NB145_150.out
         have hcz37_0:=Up.c0 BK150
         have hcz37_1:=Up.c1 BK150
         have hcz37_2:=Up.c2 BK150
         have hfz37_0:=blk_frozen BK150.out 0
         have hfz37_1:=blk_frozen BK150.out 1
         have hfz37_2:=blk_frozen BK150.out 2
         go_wp2_with (first | ((with_reducible refine gate_callee (f:=12) rfl ?_);refine Up.gl (some 33) Tryd.func12 #[.agg #[.string (rdOf ByteArray.empty t146 0),.int .i64 x151001_6,.int .i64 x151002_18]] ?_;(with_reducible refine (spec_InsOk.calls kj18 (rdOf ByteArray.empty t146 0) x151001_6 x151002_18 true _ A25.out).mono ?_);rintro e w38 ⟨rfl,hb⟩;refine ⟨_,rfl,?_⟩;have n0_:=Up.KB BK145 hb;have n1_:=Up.KB BK150 hb;have n2_:=Aside0.mk (below_step (Up.Bx HB) hb);clear BK145 BK150 HB;have BK145:=n0_;have BK150:=n1_;have HB:=n2_;clear n0_ n1_ n2_;(try clear hb);(try clear hb2);(try clear hk);(try clear hi);have hcz39_0:=Up.c0 BK150;have hcz39_1:=Up.c1 BK150;have hcz39_2:=Up.c2 BK150;have hfz39_0:=blk_frozen BK150.out 0;have hfz39_1:=blk_frozen BK150.out 1;have hfz39_2:=blk_frozen BK150.out 2) | (go_at_call 22;(with_reducible refine (spec_InsText.calls kj18 (rdOf ByteArray.empty t146 0) x151001_6 x151002_18 t156 _ A27.out).mono ?_);rintro e w40 ⟨rfl,hb⟩;have n0_:=Up.KB BK145 hb;have n1_:=Up.KB BK150 hb;have n2_:=Aside0.mk (below_step (Up.Bx HB) hb);clear BK145 BK150 HB;have BK145:=n0_;have BK150:=n1_;have HB:=n2_;clear n0_ n1_ n2_;(try clear hb);(try clear hb2);(try clear hk);(try clear hi);have hcz41_0:=Up.c0 BK145;have hcz41_1:=Up.c1 BK145;have hcz41_2:=Up.c2 BK145;have hfz41_0:=blk_frozen BK145.out 0;have hfz41_1:=blk_frozen BK145.out 1;have hfz41_2:=blk_frozen BK145.out 2))
         refine bodyPost_ret (results_ct rfl _ _ gb145 26 #[.string (⟨#[]⟩ : ByteArray),.int .i64 0,.int .i64 0] (0,0) _ rfl (Up.Kx BK145) Tryd.underlying26 rfl (by kernel_rfl)) rfl ?_
         exact Up.e1 (Up.Bx HB)
       ·replace c26:=Bool.eq_false_iff.mpr c26
        subst c26
        have H1 : (some ((⟨#[]⟩ : ByteArray),0,0,false)) = some (r1,r2,r3,r4):=by rw [if_neg (show ¬ (false = true) by decide)] at H;exact H
        clear H
        have H:=H1
        clear H1
        simp only [Option.some.injEq,Prod.mk.injEq] at H
        obtain ⟨rfl,rfl,rfl,rfl⟩:=H
        have hnb42:=NB150_145.out
        have hnc42:=NB145_150.out
        have hcz43_0:=Up.c0 BK150
        have hcz43_1:=Up.c1 BK150
        have hcz43_2:=Up.c2 BK150
        have hfz43_0:=blk_frozen BK150.out 0
        have hfz43_1:=blk_frozen BK150.out 1
        have hfz43_2:=blk_frozen BK150.out 2
        go_wp2_with (first | ((with_reducible refine gate_callee (f:=12) rfl ?_);refine Up.gl (some 33) Tryd.func12 #[.agg #[.string (rdOf ByteArray.empty t146 0),.int .i64 x151001_6,.int .i64 x151002_18]] ?_;(with_reducible refine (spec_InsOk.calls kj18 (rdOf ByteArray.empty t146 0) x151001_6 x151002_18 false _ A25.out).mono ?_);rintro e w44 ⟨rfl,hb⟩;refine ⟨_,rfl,?_⟩;have n0_:=Up.KB BK145 hb;have n1_:=Up.KB BK150 hb;have n2_:=Aside0.mk (below_step (Up.Bx HB) hb);clear BK145 BK150 HB;have BK145:=n0_;have BK150:=n1_;have HB:=n2_;clear n0_ n1_ n2_;(try clear hb);(try clear hb2);(try clear hk);(try clear hi);have hcz45_0:=Up.c0 BK145;have hcz45_1:=Up.c1 BK145;have hcz45_2:=Up.c2 BK145;have hfz45_0:=blk_frozen BK145.out 0;have hfz45_1:=blk_frozen BK145.out 1;have hfz45_2:=blk_frozen BK145.out 2))
        refine bodyPost_ret (results_ct rfl _ _ gb145 26 #[.string (⟨#[]⟩ : ByteArray),.int .i64 0,.int .i64 0] (0,0) _ rfl (Up.Kx BK145) Tryd.underlying26 rfl (by kernel_rfl)) rfl ?_
        exact Up.e1 (Up.Bx HB)
  ·rw [if_neg c6] at H
   exact absurd H (by simp)

/-! ### strings_Fields: function 51 -/
theorem tabIs_below {P : Program} {w W : World} {name : String} {k : IntKind} {zs : List Int} (h : Lib.TabIs P w name k zs) (hb : Below w.heap.size w W) : Lib.TabIs P W name k zs := by
  unfold Lib.TabIs World.var? at h ⊢
  cases hg : P.globalNamed name with
  | none => rw [hg] at h; cases h
  | some g =>
    rw [hg] at h
    simp only [Option.bind_some] at h ⊢
    have hlt : g < w.heap.size := by
      rcases Nat.lt_or_ge g w.heap.size with h' | h'
      · exact h'
      · rw [Array.getElem?_eq_none h'] at h; cases h
    rw [hb.block g hlt]
    exact h
/-- What stands in the world ahead of the call, and is asked by what it comes to in the library. -/
structure Tab (w : World) : Prop where
  f1 : Lib.TabIs Tryd.prog w "strings.asciiSpace" .u8 Lib.asciiSpaceTab
  f3 : ∃ m : Int, w.cell? ⟨2, 0, none⟩ = some (.int .i64 m)
theorem Tab.below {w W : World} (h : Tab w) (hb : Below w.heap.size w W) : Tab W := ⟨tabIs_below h.f1 hb, h.f3.elim fun m hm => ⟨m, (hb.cell (World.block_lt_of_cell? w _ hm)).trans hm⟩⟩

def asciiB (s : ByteArray) : Bool := s.data.toList.all fun b => decide (b.toNat < 128)
def strings_Fields.f (s : ByteArray) : Option (List ByteArray) := if s.size < 1000000 ∧ asciiB s = true ∧ (Lib.fields s.data.toList).length ≤ 1000000 then some ((Lib.fields s.data.toList).map fun l => ⟨l.toArray⟩) else none
theorem strings_Fields.calls (a0 : ByteArray) (r : List ByteArray) (w : World) (hT_ : Tab w) (h : strings_Fields.f a0 = some r) :
    Calls Tryd.prog 51 #[.string a0] w fun e w' => ∃ v0_ : Value, e = .returned (v0_) ∧ Kd.R Kd.string 9 w' w.heap.size (fun _ => True) v0_ r ∧ Below w.heap.size w w' := by
  unfold strings_Fields.f at h
  split at h
  · rename_i hc
    obtain rfl := Option.some.inj h
    have ha : ∀ (j : Nat) b, a0.data.toList[j]? = some b → b.toNat < 128 := by
      intro j b hb
      have h2 := List.all_eq_true.1 hc.2.1 b (List.mem_of_getElem? hb)
      exact of_decide_eq_true h2
    refine (Tryd.strings_Fields_laid a0 w (by omega) ha hT_.f1).mono ?_
    rintro e w' ⟨rfl, rfl⟩
    refine ⟨_, rfl, Kd.R_of_own ?_ (fun _ _ => trivial), below_alloc (Below.refl _ _) _⟩
    have hl := hc.2.2
    refine ⟨by simp [encs_length], .inr ⟨w.heap.size, _, _, by rw [List.length_map], Nat.le_refl _, heap_alloc_new w _, Nat.le_refl _, ?_, ?_, ?_⟩⟩
    · have hm : (1000000 : Nat) ≤ maxLen := by decide
      exact Nat.le_trans (by simpa using hl) hm
    · simp
    · rw [List.take_of_length_le (by simp)]
      simp [encs]
  · cases h

/-! ### impl_insForms: function 34 -/
mutual
def impl_insForms.l0 : Nat → List (S46) → List ByteArray → Int → Int → Option ((List (S46)))
 | 0,_,_,_,_ => none
 | k + 1,x1,x8,x9,x10 => if x10 < x9 then (if 0 ≤ x10 then (if x10 < (x8.length : Int) then (if x1.length < 4398046511104 then (impl_insForms.l0 k (x1 ++ [(⟨rdOf ByteArray.empty x8 x10,0,0⟩ : S46)]) x8 x9 (wrap64 (x10 + 1))) else (none)) else (none)) else (none)) else ((some (([(⟨(⟨#[99,111,112,121]⟩ : ByteArray),6,0⟩ : S46),(⟨(⟨#[109,111,118,101]⟩ : ByteArray),6,0⟩ : S46),(⟨(⟨#[112,117,116]⟩ : ByteArray),6,0⟩ : S46),(⟨(⟨#[100,114,111,112]⟩ : ByteArray),0,0⟩ : S46)] : List (S46)) : List (S46))).bind fun y167 => (if x1.length + y167.length < 4398046511104 then ((some (x1 ++ y167 : List (S46))).bind fun y170 => ((some (([(⟨(⟨#[112,97,99,107]⟩ : ByteArray),3,0⟩ : S46),(⟨(⟨#[117,110,112,97,99,107]⟩ : ByteArray),3,0⟩ : S46),(⟨(⟨#[108,101,110,100]⟩ : ByteArray),6,0⟩ : S46),(⟨(⟨#[108,101,110,100,119]⟩ : ByteArray),6,0⟩ : S46),(⟨(⟨#[102,105,101,108,100]⟩ : ByteArray),3,3⟩ : S46)] : List (S46)) : List (S46))).bind fun y173 => (if y170.length + y173.length < 4398046511104 then ((some (y170 ++ y173 : List (S46))).bind fun y176 => ((some (([(⟨(⟨#[114,101,97,100]⟩ : ByteArray),0,0⟩ : S46),(⟨(⟨#[112,101,101,107]⟩ : ByteArray),0,0⟩ : S46),(⟨(⟨#[119,114,105,116,101]⟩ : ByteArray),0,0⟩ : S46),(⟨(⟨#[102,114,101,101,122,101]⟩ : ByteArray),0,0⟩ : S46)] : List (S46)) : List (S46))).bind fun y179 => (if y176.length + y179.length < 4398046511104 then ((strings_Fields.f (⟨#[107,101,101,112,32,116,97,107,101,32,104,97,115,32,115,101,101,32,115,101,101,119]⟩ : ByteArray)).bind fun t185 => (impl_insForms.l1 k (y176 ++ y179) t185 (t185.length : Int) 0)) else (none)))) else (none)))) else (none)))
def impl_insForms.l1 : Nat → List (S46) → List ByteArray → Int → Int → Option ((List (S46)))
 | 0,_,_,_,_ => none
 | k + 1,x1,x42,x43,x44 => if x44 < x43 then (if 0 ≤ x44 then (if x44 < (x42.length : Int) then (if x1.length < 4398046511104 then (impl_insForms.l1 k (x1 ++ [(⟨rdOf ByteArray.empty x42 x44,3,0⟩ : S46)]) x42 x43 (wrap64 (x44 + 1))) else (none)) else (none)) else (none)) else ((some (([(⟨(⟨#[106,117,109,112]⟩ : ByteArray),40,0⟩ : S46),(⟨(⟨#[122,101,114,111]⟩ : ByteArray),40,0⟩ : S46),(⟨(⟨#[99,97,108,108]⟩ : ByteArray),3,4⟩ : S46),(⟨(⟨#[114,101,116]⟩ : ByteArray),0,0⟩ : S46),(⟨(⟨#[102,97,105,108]⟩ : ByteArray),0,0⟩ : S46)] : List (S46)) : List (S46))).bind fun y192 => (if x1.length + y192.length < 4398046511104 then (some (x1 ++ y192)) else (none)))
end
def impl_insForms.f (k : Nat)  : Option ((List (S46))):=(strings_Fields.f (⟨#[116,114,117,101,32,102,97,108,115,101,32,109,101,32,97,100,100,32,115,117,98,32,109,117,108,32,100,105,118,32,109,111,100,32,108,101,115,115,32,115,97,109,101,32,97,110,100,32,111,114,32,110,111,116]⟩ : ByteArray)).bind fun t160 => (impl_insForms.l0 k (([(⟨(⟨#[110,117,109]⟩ : ByteArray),1000001,0⟩ : S46)] : List (S46))) t160 (t160.length : Int) 0)
theorem impl_insForms.mono_l : ∀ k,(∀ y0 y1 y2 y3,LeO (impl_insForms.l0 k y0 y1 y2 y3) (impl_insForms.l0 (k + 1) y0 y1 y2 y3)) ∧ (∀ y0 y1 y2 y3,LeO (impl_insForms.l1 k y0 y1 y2 y3) (impl_insForms.l1 (k + 1) y0 y1 y2 y3))
 | 0 => ⟨fun _ _ _ _ r h => by simp [impl_insForms.l0] at h,fun _ _ _ _ r h => by simp [impl_insForms.l1] at h⟩
 | k + 1 => by
  obtain ⟨ih0,ih1⟩:=impl_insForms.mono_l k
  refine ⟨?_,?_⟩
  ·intro y0 y1 y2 y3
   unfold impl_insForms.l0
   repeat' first
   | (with_reducible exact ih0 _ _ _ _)
   | (with_reducible exact ih1 _ _ _ _)
   | (with_reducible exact LeO.refl _)
   | (with_reducible exact LeO.none _)
   | (with_reducible refine LeO.ite ?_ ?_)
   | (with_reducible refine LeO.bind ?_ (fun _ => ?_))
   | exact ih0 _ _ _ _
   | exact ih1 _ _ _ _
   | exact LeO.none _
   | refine LeO.ite ?_ ?_
   | refine LeO.bind ?_ (fun _ => ?_)
  ·intro y0 y1 y2 y3
   unfold impl_insForms.l1
   repeat' first
   | (with_reducible exact ih0 _ _ _ _)
   | (with_reducible exact ih1 _ _ _ _)
   | (with_reducible exact LeO.refl _)
   | (with_reducible exact LeO.none _)
   | (with_reducible refine LeO.ite ?_ ?_)
   | (with_reducible refine LeO.bind ?_ (fun _ => ?_))
   | exact ih0 _ _ _ _
   | exact ih1 _ _ _ _
   | exact LeO.none _
   | refine LeO.ite ?_ ?_
   | refine LeO.bind ?_ (fun _ => ?_)
theorem impl_insForms.mono : ∀ k,LeO (impl_insForms.f k ) (impl_insForms.f (k + 1) ):=by
 intro  k
 obtain ⟨ih0,ih1⟩:=impl_insForms.mono_l k
 unfold impl_insForms.f
 repeat' first
   | (with_reducible exact ih0 _ _ _ _)
   | (with_reducible exact ih1 _ _ _ _)
   | (with_reducible exact LeO.refl _)
   | (with_reducible exact LeO.none _)
   | (with_reducible refine LeO.ite ?_ ?_)
   | (with_reducible refine LeO.bind ?_ (fun _ => ?_))
   | exact ih0 _ _ _ _
   | exact ih1 _ _ _ _
   | exact LeO.none _
   | refine LeO.ite ?_ ?_
   | refine LeO.bind ?_ (fun _ => ?_)
set_option maxHeartbeats 8000000 in
set_option maxRecDepth 100000 in
theorem impl_insForms.calls (k : Nat)  (r : List (S46)) (w : World) (hT_ : Tab w) (h : impl_insForms.f k  = some r) :
  Calls Tryd.prog 34 #[] w fun e w' => ∃ v0_ : Value,e = .returned (v0_) ∧ Kd.R k46 46 w' w.heap.size (fun _ => True) v0_ r ∧ Below w.heap.size w w':=by
 have hu46:=Tryd.underlying46
 have HB:=Aside0.mk (Below.refl w.heap.size w)
 have H : ((strings_Fields.f (⟨#[116,114,117,101,32,102,97,108,115,101,32,109,101,32,97,100,100,32,115,117,98,32,109,117,108,32,100,105,118,32,109,111,100,32,108,101,115,115,32,115,97,109,101,32,97,110,100,32,111,114,32,110,111,116]⟩ : ByteArray)).bind fun t160 => (impl_insForms.l0 k (([(⟨(⟨#[110,117,109]⟩ : ByteArray),1000001,0⟩ : S46)] : List (S46))) t160 (t160.length : Int) 0)) = some r:=h
 clear h
 obtain ⟨y157,hy157⟩ : ∃ y_ : List (S46),y_ = (([(⟨(⟨#[110,117,109]⟩ : ByteArray),1000001,0⟩ : S46)] : List (S46))):=⟨_,rfl⟩
 replace H : ((strings_Fields.f (⟨#[116,114,117,101,32,102,97,108,115,101,32,109,101,32,97,100,100,32,115,117,98,32,109,117,108,32,100,105,118,32,109,111,100,32,108,101,115,115,32,115,97,109,101,32,97,110,100,32,111,114,32,110,111,116]⟩ : ByteArray)).bind fun t160 => (impl_insForms.l0 k y157 t160 (t160.length : Int) 0)) = some r:=by first | (rw [hy157];with_reducible exact H) | (have H2_:=(Option.bind_some _ _).symm.trans H;rw [hy157];with_reducible exact H2_) | (have H2_:=(Option.bind_some _ _).symm.trans H;with_reducible exact H2_) | with_reducible exact H | (rw [hy157];exact H) | exact H
 have Ny157:=Aside0.mk hy157
 clear hy157
 replace H:=Option.bind_eq_some_iff.mp H
 obtain ⟨t160,A10,H⟩:=H
 replace H : (impl_insForms.l0 k y157 t160 (t160.length : Int) 0) = some r:=H
 have A1:=Aside0.mk A10
 clear A10
 have H':=Aside0.mk H
 clear H
 go_enter Tryd.func34,Tryd.ntmps34
 go_wp2_with (first | ((with_reducible refine gate_dst (N:=7) rfl ?_);refine Kd.R_lit k46 _ 46 ?hg (N:=7) ?hd (xs:=([(⟨(⟨#[110,117,109]⟩ : ByteArray),1000001,0⟩ : S46)] : List (S46))) (inner:=[.string (⟨#[110,117,109]⟩ : ByteArray),.int .i64 1000001,.int .i64 0]) (ok:=fun _ => True) (okp:=fun _ => True) ?hr ?hp (fun _ hk => hk) trivial (Below.refl _ _) (Nat.le_refl _) (by simp) ?_;(case hd => rfl);(case hg => rfl);(case hr => first | (go_simp;done) | (go_simp;rfl));(case hp => exact (Reps.c3 (show Kd.M k46 _ _ _ (⟨(⟨#[110,117,109]⟩ : ByteArray),1000001,0⟩ : S46) [.string (⟨#[110,117,109]⟩ : ByteArray),.int .i64 1000001,.int .i64 0] from (k46_mkM _ _ _ (⟨(⟨#[110,117,109]⟩ : ByteArray),1000001,0⟩ : S46) )) (Reps.none _ _)));intro v158 w2 ho3 hb hg_ hnew_;clear hg_ hnew_;(first | rw [← Ny157.out] at ho3 | (simp only [Int.reduceToNat] at ho3;rw [← Ny157.out] at ho3));have n0_:=Aside0.mk (Kd.R_lower ho3 (below_size (Up.Bup HB)));have n1_:=Up.BB HB hb;clear HB;have HO159:=n0_;have HB:=n1_;clear n0_ n1_ hb ho3) | ((with_reducible refine gate_callee (f:=51) rfl ?_);refine Up.gl (some 8) Tryd.func51 #[.string (⟨#[116,114,117,101,32,102,97,108,115,101,32,109,101,32,97,100,100,32,115,117,98,32,109,117,108,32,100,105,118,32,109,111,100,32,108,101,115,115,32,115,97,109,101,32,97,110,100,32,111,114,32,110,111,116]⟩ : ByteArray)] ?_;(with_reducible refine (strings_Fields.calls (hT_:=?tab1) (⟨#[116,114,117,101,32,102,97,108,115,101,32,109,101,32,97,100,100,32,115,117,98,32,109,117,108,32,100,105,118,32,109,111,100,32,108,101,115,115,32,115,97,109,101,32,97,110,100,32,111,114,32,110,111,116]⟩ : ByteArray) t160 _ A1.out).mono ?_);(case tab1 => exact hT_.below (Up.Bx HB));rintro e w4 ⟨v161,rfl,ho0,hb⟩;refine ⟨_,rfl,?_⟩;have n0_:=Up.RB HO159 hb;have n1_:=Aside0.mk (Kd.R_lower ho0 (below_size (Up.Bup HB)));have n2_:=Up.BB HB hb;clear HO159 HB;have HO159:=n0_;have HO162:=n1_;have HB:=n2_;clear n0_ n1_ n2_;(try clear hb);(try clear hb2);(try clear hk);(try clear hi);(try clear ho0);obtain ⟨Ao5,co5,eo5⟩:=Kd.R_slice HO162.out;subst eo5))
 go_loopg [1,10] k (fun kq v1 v10 w' => ∃ (x1_1 : List (S46)) (x10_1 : Int),v10 = .int .i64 x10_1 ∧ Aside0 (impl_insForms.l0 kq x1_1 t160 (t160.length : Int) x10_1 = some r) ∧ Aside0 (kq ≤ k) ∧ Aside0 (Kd.R k46 46 w' w.heap.size (fun _ => True) v1 x1_1) ∧ Aside0 (Kd.R Kd.string 9 w' w.heap.size (fun _ => True) (.slice Ao5 t160.length co5) t160) ∧ Aside0 (Below w.heap.size w w'))
 case atStart => exact ⟨(y157),(0),(by first | rfl | (simp;done) | (simp [*];done)),H',⟨Nat.le_refl _⟩,⟨Up.Rup HO159⟩,⟨Up.Rup HO162⟩,⟨Up.Bup HB⟩⟩
 case round =>
  clear H'
  try clear p2
  try clear c3
  try clear c5
  obtain ⟨x1_1,x10_1,rfl,HA,HK1,HO_1,HO_8,HB⟩:=hrel
  cases gk with
  | zero => exact absurd HA.out (by simp [impl_insForms.l0])
  | succ k1 =>
   have H:=HA.out
   clear HA
   simp only [impl_insForms.l0] at H
   by_cases c6 : x10_1 < (t160.length : Int)
   ·rw [if_pos c6] at H
    have c6b0 : decide (x10_1 < (t160.length : Int)) = true:=decide_eq_true c6
    clear c6
    by_cases c7 : 0 ≤ x10_1
    ·rw [if_pos c7] at H
     have c7b0 : decide (0 ≤ x10_1) = true:=decide_eq_true c7
     clear c7
     by_cases c8 : x10_1 < (t160.length : Int)
     ·rw [if_pos c8] at H
      have c8b0 : decide (x10_1 < (t160.length : Int)) = true:=decide_eq_true c8
      clear c8
      by_cases c9 : x1_1.length < 4398046511104
      ·rw [if_pos c9] at H
       have LMc9:=Aside0.mk c9
       clear c9
       obtain ⟨y164,hy164⟩ : ∃ y_ : List (S46),y_ = (x1_1 ++ [(⟨rdOf ByteArray.empty t160 x10_1,0,0⟩ : S46)]):=⟨_,rfl⟩
       replace H : (impl_insForms.l0 k1 y164 t160 (t160.length : Int) (wrap64 (x10_1 + 1))) = some r:=by first | (rw [hy164];with_reducible exact H) | (have H2_:=(Option.bind_some _ _).symm.trans H;rw [hy164];with_reducible exact H2_) | (have H2_:=(Option.bind_some _ _).symm.trans H;with_reducible exact H2_) | with_reducible exact H | (rw [hy164];exact H) | exact H
       have Ny164:=Aside0.mk hy164
       clear hy164
       have H':=Aside0.mk H
       clear H
       have p163 : 0 ≤ (x10_1 : Int):=Up.od
       have q163 : x10_1 < (t160.length : Int):=Up.od
       obtain ⟨ad163,e163,hx163_0⟩:=Kd.at_string (Kd.R_reads' HO_8.out).2.2 x10_1 p163 q163
       cases e163
       replace p163:=eq_true p163
       replace q163:=eq_true q163
       go_wp2_with (first | ((with_reducible refine gate_builtin (b:=.append) (xs:=#[.tmp 14,.tmp 17]) rfl ?_);at_builtin;refine Kd.R_append k46 (w0:=w) w.heap.size rfl (.tmp 14) (.tmp 17) 49 46 (.agg #[(.string ⟨#[]⟩),(.int .i64 0),(.int .i64 0)]) 32 rfl Tryd.underlying49 info46 rfl (by decide) (by omega) u1 x1_1 (⟨rdOf ByteArray.empty t160 x10_1,0,0⟩ : S46) [.string (rdOf ByteArray.empty t160 x10_1),.int .i64 0,.int .i64 0] (fun _ => True) (fun _ => False) rfl rfl ?aP (fun _ hk => hk.elim) ?aF ?aO ?aB ?aS ?aL ?_;(case aP => exact k46_mkM _ _ _ (⟨rdOf ByteArray.empty t160 x10_1,0,0⟩ : S46));(case aB => exact (Up.Bup HB));(case aF => exact (fun _ _ => trivial));(case aO => exact (Up.Rup HO_1));(case aS => exact (below_size (Up.Bup HB)));(case aL => have:=LMc9.out;omega);intro v165 w10 ho hb hg hat;rw [← Ny164.out] at ho;have n0_:=Aside0.mk (Kd.R_over' (Up.Rup HO_8) (Kd.R_typed (Up.Rup HO_1)) (by decide) hg);have n1_:=Aside0.mk (hb);have n2_:=Aside0.mk (ho);clear HO_8 HB HO_1;have HO_8:=n0_;have HB:=n1_;have HO166:=n2_;clear n0_ n1_ n2_ ho hb hg hat))
       go_roundg k1
       case measure => have:=HK1.out;omega
       case rel => exact ⟨(y164),(wrap64 (x10_1 + 1)),(by first | rfl | (simp;done) | (simp [*];done)),H',⟨by have:=HK1.out;omega⟩,⟨Up.Rup HO166⟩,⟨Up.Rup HO_8⟩,⟨Up.Bup HB⟩⟩
      ·rw [if_neg c9] at H
       exact absurd H (by simp)
     ·rw [if_neg c8] at H
      exact absurd H (by simp)
    ·rw [if_neg c7] at H
     exact absurd H (by simp)
   ·rw [if_neg c6] at H
    have c6b0 : decide (x10_1 < (t160.length : Int)) = false:=decide_eq_false c6
    clear c6
    obtain ⟨y167,hy167⟩ : ∃ y_ : List (S46),y_ = (([(⟨(⟨#[99,111,112,121]⟩ : ByteArray),6,0⟩ : S46),(⟨(⟨#[109,111,118,101]⟩ : ByteArray),6,0⟩ : S46),(⟨(⟨#[112,117,116]⟩ : ByteArray),6,0⟩ : S46),(⟨(⟨#[100,114,111,112]⟩ : ByteArray),0,0⟩ : S46)] : List (S46))):=⟨_,rfl⟩
    replace H : (if x1_1.length + y167.length < 4398046511104 then ((some (x1_1 ++ y167 : List (S46))).bind fun y170 => ((some (([(⟨(⟨#[112,97,99,107]⟩ : ByteArray),3,0⟩ : S46),(⟨(⟨#[117,110,112,97,99,107]⟩ : ByteArray),3,0⟩ : S46),(⟨(⟨#[108,101,110,100]⟩ : ByteArray),6,0⟩ : S46),(⟨(⟨#[108,101,110,100,119]⟩ : ByteArray),6,0⟩ : S46),(⟨(⟨#[102,105,101,108,100]⟩ : ByteArray),3,3⟩ : S46)] : List (S46)) : List (S46))).bind fun y173 => (if y170.length + y173.length < 4398046511104 then ((some (y170 ++ y173 : List (S46))).bind fun y176 => ((some (([(⟨(⟨#[114,101,97,100]⟩ : ByteArray),0,0⟩ : S46),(⟨(⟨#[112,101,101,107]⟩ : ByteArray),0,0⟩ : S46),(⟨(⟨#[119,114,105,116,101]⟩ : ByteArray),0,0⟩ : S46),(⟨(⟨#[102,114,101,101,122,101]⟩ : ByteArray),0,0⟩ : S46)] : List (S46)) : List (S46))).bind fun y179 => (if y176.length + y179.length < 4398046511104 then ((strings_Fields.f (⟨#[107,101,101,112,32,116,97,107,101,32,104,97,115,32,115,101,101,32,115,101,101,119]⟩ : ByteArray)).bind fun t185 => (impl_insForms.l1 k1 (y176 ++ y179) t185 (t185.length : Int) 0)) else (none)))) else (none)))) else (none)) = some r:=by first | (rw [hy167];with_reducible exact H) | (have H2_:=(Option.bind_some _ _).symm.trans H;rw [hy167];with_reducible exact H2_) | (have H2_:=(Option.bind_some _ _).symm.trans H;with_reducible exact H2_) | with_reducible exact H | (rw [hy167];exact H) | exact H
    have Ny167:=Aside0.mk hy167
    clear hy167
    by_cases c11 : x1_1.length + y167.length < 4398046511104
    ·rw [if_pos c11] at H
     have LMc11:=Aside0.mk c11
     clear c11
     obtain ⟨y170,hy170⟩ : ∃ y_ : List (S46),y_ = (x1_1 ++ y167):=⟨_,rfl⟩
     replace H : ((some (([(⟨(⟨#[112,97,99,107]⟩ : ByteArray),3,0⟩ : S46),(⟨(⟨#[117,110,112,97,99,107]⟩ : ByteArray),3,0⟩ : S46),(⟨(⟨#[108,101,110,100]⟩ : ByteArray),6,0⟩ : S46),(⟨(⟨#[108,101,110,100,119]⟩ : ByteArray),6,0⟩ : S46),(⟨(⟨#[102,105,101,108,100]⟩ : ByteArray),3,3⟩ : S46)] : List (S46)) : List (S46))).bind fun y173 => (if y170.length + y173.length < 4398046511104 then ((some (y170 ++ y173 : List (S46))).bind fun y176 => ((some (([(⟨(⟨#[114,101,97,100]⟩ : ByteArray),0,0⟩ : S46),(⟨(⟨#[112,101,101,107]⟩ : ByteArray),0,0⟩ : S46),(⟨(⟨#[119,114,105,116,101]⟩ : ByteArray),0,0⟩ : S46),(⟨(⟨#[102,114,101,101,122,101]⟩ : ByteArray),0,0⟩ : S46)] : List (S46)) : List (S46))).bind fun y179 => (if y176.length + y179.length < 4398046511104 then ((strings_Fields.f (⟨#[107,101,101,112,32,116,97,107,101,32,104,97,115,32,115,101,101,32,115,101,101,119]⟩ : ByteArray)).bind fun t185 => (impl_insForms.l1 k1 (y176 ++ y179) t185 (t185.length : Int) 0)) else (none)))) else (none))) = some r:=by first | (rw [hy170];with_reducible exact H) | (have H2_:=(Option.bind_some _ _).symm.trans H;rw [hy170];with_reducible exact H2_) | (have H2_:=(Option.bind_some _ _).symm.trans H;with_reducible exact H2_) | with_reducible exact H | (rw [hy170];exact H) | exact H
     have Ny170:=Aside0.mk hy170
     clear hy170
     obtain ⟨y173,hy173⟩ : ∃ y_ : List (S46),y_ = (([(⟨(⟨#[112,97,99,107]⟩ : ByteArray),3,0⟩ : S46),(⟨(⟨#[117,110,112,97,99,107]⟩ : ByteArray),3,0⟩ : S46),(⟨(⟨#[108,101,110,100]⟩ : ByteArray),6,0⟩ : S46),(⟨(⟨#[108,101,110,100,119]⟩ : ByteArray),6,0⟩ : S46),(⟨(⟨#[102,105,101,108,100]⟩ : ByteArray),3,3⟩ : S46)] : List (S46))):=⟨_,rfl⟩
     replace H : (if y170.length + y173.length < 4398046511104 then ((some (y170 ++ y173 : List (S46))).bind fun y176 => ((some (([(⟨(⟨#[114,101,97,100]⟩ : ByteArray),0,0⟩ : S46),(⟨(⟨#[112,101,101,107]⟩ : ByteArray),0,0⟩ : S46),(⟨(⟨#[119,114,105,116,101]⟩ : ByteArray),0,0⟩ : S46),(⟨(⟨#[102,114,101,101,122,101]⟩ : ByteArray),0,0⟩ : S46)] : List (S46)) : List (S46))).bind fun y179 => (if y176.length + y179.length < 4398046511104 then ((strings_Fields.f (⟨#[107,101,101,112,32,116,97,107,101,32,104,97,115,32,115,101,101,32,115,101,101,119]⟩ : ByteArray)).bind fun t185 => (impl_insForms.l1 k1 (y176 ++ y179) t185 (t185.length : Int) 0)) else (none)))) else (none)) = some r:=by first | (rw [hy173];with_reducible exact H) | (have H2_:=(Option.bind_some _ _).symm.trans H;rw [hy173];with_reducible exact H2_) | (have H2_:=(Option.bind_some _ _).symm.trans H;with_reducible exact H2_) | with_reducible exact H | (rw [hy173];exact H) | exact H
     have Ny173:=Aside0.mk hy173
     clear hy173
     by_cases c12 : y170.length + y173.length < 4398046511104
     ·rw [if_pos c12] at H
      have LMc12:=Aside0.mk c12
      clear c12
      obtain ⟨y176,hy176⟩ : ∃ y_ : List (S46),y_ = (y170 ++ y173):=⟨_,rfl⟩
      replace H : ((some (([(⟨(⟨#[114,101,97,100]⟩ : ByteArray),0,0⟩ : S46),(⟨(⟨#[112,101,101,107]⟩ : ByteArray),0,0⟩ : S46),(⟨(⟨#[119,114,105,116,101]⟩ : ByteArray),0,0⟩ : S46),(⟨(⟨#[102,114,101,101,122,101]⟩ : ByteArray),0,0⟩ : S46)] : List (S46)) : List (S46))).bind fun y179 => (if y176.length + y179.length < 4398046511104 then ((strings_Fields.f (⟨#[107,101,101,112,32,116,97,107,101,32,104,97,115,32,115,101,101,32,115,101,101,119]⟩ : ByteArray)).bind fun t185 => (impl_insForms.l1 k1 (y176 ++ y179) t185 (t185.length : Int) 0)) else (none))) = some r:=by first | (rw [hy176];with_reducible exact H) | (have H2_:=(Option.bind_some _ _).symm.trans H;rw [hy176];with_reducible exact H2_) | (have H2_:=(Option.bind_some _ _).symm.trans H;with_reducible exact H2_) | with_reducible exact H | (rw [hy176];exact H) | exact H
      have Ny176:=Aside0.mk hy176
      clear hy176
      obtain ⟨y179,hy179⟩ : ∃ y_ : List (S46),y_ = (([(⟨(⟨#[114,101,97,100]⟩ : ByteArray),0,0⟩ : S46),(⟨(⟨#[112,101,101,107]⟩ : ByteArray),0,0⟩ : S46),(⟨(⟨#[119,114,105,116,101]⟩ : ByteArray),0,0⟩ : S46),(⟨(⟨#[102,114,101,101,122,101]⟩ : ByteArray),0,0⟩ : S46)] : List (S46))):=⟨_,rfl⟩
      replace H : (if y176.length + y179.length < 4398046511104 then ((strings_Fields.f (⟨#[107,101,101,112,32,116,97,107,101,32,104,97,115,32,115,101,101,32,115,101,101,119]⟩ : ByteArray)).bind fun t185 => (impl_insForms.l1 k1 (y176 ++ y179) t185 (t185.length : Int) 0)) else (none)) = some r:=by first | (rw [hy179];with_reducible exact H) | (have H2_:=(Option.bind_some _ _).symm.trans H;rw [hy179];with_reducible exact H2_) | (have H2_:=(Option.bind_some _ _).symm.trans H;with_reducible exact H2_) | with_reducible exact H | (rw [hy179];exact H) | exact H
      have Ny179:=Aside0.mk hy179
      clear hy179
      by_cases c13 : y176.length + y179.length < 4398046511104
      ·rw [if_pos c13] at H
       have LMc13:=Aside0.mk c13
       clear c13
       obtain ⟨y182,hy182⟩ : ∃ y_ : List (S46),y_ = (y176 ++ y179):=⟨_,rfl⟩
       replace H : ((strings_Fields.f (⟨#[107,101,101,112,32,116,97,107,101,32,104,97,115,32,115,101,101,32,115,101,101,119]⟩ : ByteArray)).bind fun t185 => (impl_insForms.l1 k1 y182 t185 (t185.length : Int) 0)) = some r:=by first | (rw [hy182];with_reducible exact H) | (have H2_:=(Option.bind_some _ _).symm.trans H;rw [hy182];with_reducible exact H2_) | (have H2_:=(Option.bind_some _ _).symm.trans H;with_reducible exact H2_) | with_reducible exact H | (rw [hy182];exact H) | exact H
       have Ny182:=Aside0.mk hy182
       clear hy182
       replace H:=Option.bind_eq_some_iff.mp H
       obtain ⟨t185,A140,H⟩:=H
       replace H : (impl_insForms.l1 k1 y182 t185 (t185.length : Int) 0) = some r:=H
       have A14:=Aside0.mk A140
       clear A140
       have H':=Aside0.mk H
       clear H
       go_wp2_with (first | ((with_reducible refine gate_dst (N:=25) rfl ?_);refine Kd.R_lit k46 _ 46 ?hg (N:=25) ?hd (xs:=([(⟨(⟨#[99,111,112,121]⟩ : ByteArray),6,0⟩ : S46),(⟨(⟨#[109,111,118,101]⟩ : ByteArray),6,0⟩ : S46),(⟨(⟨#[112,117,116]⟩ : ByteArray),6,0⟩ : S46),(⟨(⟨#[100,114,111,112]⟩ : ByteArray),0,0⟩ : S46)] : List (S46))) (inner:=[.string (⟨#[99,111,112,121]⟩ : ByteArray),.int .i64 6,.int .i64 0,.string (⟨#[109,111,118,101]⟩ : ByteArray),.int .i64 6,.int .i64 0,.string (⟨#[112,117,116]⟩ : ByteArray),.int .i64 6,.int .i64 0,.string (⟨#[100,114,111,112]⟩ : ByteArray),.int .i64 0,.int .i64 0]) (ok:=fun _ => True) (okp:=fun _ => True) ?hr ?hp (fun _ hk => hk) trivial (Below.refl _ _) (Nat.le_refl _) (by simp) ?_;(case hd => rfl);(case hg => rfl);(case hr => first | (go_simp;done) | (go_simp;rfl));(case hp => exact (Reps.c3 (show Kd.M k46 _ _ _ (⟨(⟨#[99,111,112,121]⟩ : ByteArray),6,0⟩ : S46) [.string (⟨#[99,111,112,121]⟩ : ByteArray),.int .i64 6,.int .i64 0] from (k46_mkM _ _ _ (⟨(⟨#[99,111,112,121]⟩ : ByteArray),6,0⟩ : S46) )) (Reps.c3 (show Kd.M k46 _ _ _ (⟨(⟨#[109,111,118,101]⟩ : ByteArray),6,0⟩ : S46) [.string (⟨#[109,111,118,101]⟩ : ByteArray),.int .i64 6,.int .i64 0] from (k46_mkM _ _ _ (⟨(⟨#[109,111,118,101]⟩ : ByteArray),6,0⟩ : S46) )) (Reps.c3 (show Kd.M k46 _ _ _ (⟨(⟨#[112,117,116]⟩ : ByteArray),6,0⟩ : S46) [.string (⟨#[112,117,116]⟩ : ByteArray),.int .i64 6,.int .i64 0] from (k46_mkM _ _ _ (⟨(⟨#[112,117,116]⟩ : ByteArray),6,0⟩ : S46) )) (Reps.c3 (show Kd.M k46 _ _ _ (⟨(⟨#[100,114,111,112]⟩ : ByteArray),0,0⟩ : S46) [.string (⟨#[100,114,111,112]⟩ : ByteArray),.int .i64 0,.int .i64 0] from (k46_mkM _ _ _ (⟨(⟨#[100,114,111,112]⟩ : ByteArray),0,0⟩ : S46) )) (Reps.none _ _))))));intro v168 w15 ho16 hb hg_ hnew_;clear hg_ hnew_;(first | rw [← Ny167.out] at ho16 | (simp only [Int.reduceToNat] at ho16;rw [← Ny167.out] at ho16));have n0_:=Aside0.mk (Kd.R_elder' (Up.Rup HO_1) (Kd.R_base ho16) hb);have n1_:=Up.RB HO_8 hb;have n2_:=Aside0.mk (Kd.R_lower (Kd.R_new' ho16 (Kd.R_lt (Up.Rup HO_1))) (below_size (Up.Bup HB)));have n3_:=Up.BB HB hb;clear HO_1 HO_8 HB;have HO_1:=n0_;have HO_8:=n1_;have HO169:=n2_;have HB:=n3_;clear n0_ n1_ n2_ n3_ hb ho16;obtain ⟨Ao18,co18,eo18⟩:=Kd.R_slice HO169.out;subst eo18) | ((with_reducible refine gate_builtin (b:=.append) (xs:=#[.tmp 20,.tmp 25]) rfl ?_);at_builtin;refine Kd.R_append_rows k46 (w0:=w) w.heap.size rfl (.tmp 20) (.tmp 25) 49 46 (.agg #[(.string ⟨#[]⟩),(.int .i64 0),(.int .i64 0)]) 32 rfl Tryd.underlying49 info46 rfl (by decide) (by omega) u1 x1_1 y167 _ _ _ (fun k_ => some k_ ≠ (.slice Ao18 y167.length co18 : Value).ownBlock) (fun _ => False) rfl rfl ?aO ?aR (fun _ _ h => h) (fun _ h => h.elim) ?aF ?aB ?aS ?aL ?_;(case aR => repeat (first | exact (Kd.R_reads' HO169.out).2.2 | (with_reducible refine Kd.C_alloc ?_ _) | (with_reducible refine Kd.C_drewN ?_ _) | (with_reducible refine Kd.C_drew ?_)));(case aB => exact (Up.Bup HB));(case aF => exact (fun k_ hk => Kd.fresh' (Kd.R_lt (Up.Rup HO169)) k_ hk));(case aO => exact (Up.Rq (Kd.R_mono HO_1.out (fun _ hk => hk.2))));(case aS => exact (below_size (Up.Bup HB)));(case aL => have:=LMc11.out;omega);intro v171 w17 ho hb hg hat;rw [← Ny170.out] at ho;have n0_:=Aside0.mk (Kd.R_over' (Up.Rup HO_8) (Kd.R_typed (Up.Rup HO_1)) (by decide) hg);have n1_:=Aside0.mk (Kd.R_after (ok:=(fun _ => True)) (Up.Rup HO169) hg hat);have n2_:=Aside0.mk (hb);have n3_:=Aside0.mk (ho);clear HO_8 HO169 HB HO_1;have HO_8:=n0_;have HO169:=n1_;have HB:=n2_;have HO172:=n3_;clear n0_ n1_ n2_ n3_ ho hb hg hat) | ((with_reducible refine gate_dst (N:=33) rfl ?_);refine Kd.R_lit k46 _ 46 ?hg (N:=33) ?hd (xs:=([(⟨(⟨#[112,97,99,107]⟩ : ByteArray),3,0⟩ : S46),(⟨(⟨#[117,110,112,97,99,107]⟩ : ByteArray),3,0⟩ : S46),(⟨(⟨#[108,101,110,100]⟩ : ByteArray),6,0⟩ : S46),(⟨(⟨#[108,101,110,100,119]⟩ : ByteArray),6,0⟩ : S46),(⟨(⟨#[102,105,101,108,100]⟩ : ByteArray),3,3⟩ : S46)] : List (S46))) (inner:=[.string (⟨#[112,97,99,107]⟩ : ByteArray),.int .i64 3,.int .i64 0,.string (⟨#[117,110,112,97,99,107]⟩ : ByteArray),.int .i64 3,.int .i64 0,.string (⟨#[108,101,110,100]⟩ : ByteArray),.int .i64 6,.int .i64 0,.string (⟨#[108,101,110,100,119]⟩ : ByteArray),.int .i64 6,.int .i64 0,.string (⟨#[102,105,101,108,100]⟩ : ByteArray),.int .i64 3,.int .i64 3]) (ok:=fun _ => True) (okp:=fun _ => True) ?hr ?hp (fun _ hk => hk) trivial (Below.refl _ _) (Nat.le_refl _) (by simp) ?_;(case hd => rfl);(case hg => rfl);(case hr => first | (go_simp;done) | (go_simp;rfl));(case hp => exact (Reps.c3 (show Kd.M k46 _ _ _ (⟨(⟨#[112,97,99,107]⟩ : ByteArray),3,0⟩ : S46) [.string (⟨#[112,97,99,107]⟩ : ByteArray),.int .i64 3,.int .i64 0] from (k46_mkM _ _ _ (⟨(⟨#[112,97,99,107]⟩ : ByteArray),3,0⟩ : S46) )) (Reps.c3 (show Kd.M k46 _ _ _ (⟨(⟨#[117,110,112,97,99,107]⟩ : ByteArray),3,0⟩ : S46) [.string (⟨#[117,110,112,97,99,107]⟩ : ByteArray),.int .i64 3,.int .i64 0] from (k46_mkM _ _ _ (⟨(⟨#[117,110,112,97,99,107]⟩ : ByteArray),3,0⟩ : S46) )) (Reps.c3 (show Kd.M k46 _ _ _ (⟨(⟨#[108,101,110,100]⟩ : ByteArray),6,0⟩ : S46) [.string (⟨#[108,101,110,100]⟩ : ByteArray),.int .i64 6,.int .i64 0] from (k46_mkM _ _ _ (⟨(⟨#[108,101,110,100]⟩ : ByteArray),6,0⟩ : S46) )) (Reps.c3 (show Kd.M k46 _ _ _ (⟨(⟨#[108,101,110,100,119]⟩ : ByteArray),6,0⟩ : S46) [.string (⟨#[108,101,110,100,119]⟩ : ByteArray),.int .i64 6,.int .i64 0] from (k46_mkM _ _ _ (⟨(⟨#[108,101,110,100,119]⟩ : ByteArray),6,0⟩ : S46) )) (Reps.c3 (show Kd.M k46 _ _ _ (⟨(⟨#[102,105,101,108,100]⟩ : ByteArray),3,3⟩ : S46) [.string (⟨#[102,105,101,108,100]⟩ : ByteArray),.int .i64 3,.int .i64 3] from (k46_mkM _ _ _ (⟨(⟨#[102,105,101,108,100]⟩ : ByteArray),3,3⟩ : S46) )) (Reps.none _ _)))))));intro v174 w19 ho20 hb hg_ hnew_;clear hg_ hnew_;(first | rw [← Ny173.out] at ho20 | (simp only [Int.reduceToNat] at ho20;rw [← Ny173.out] at ho20));have n0_:=Up.RB HO_8 hb;have n1_:=Aside0.mk (Kd.R_elder' (Up.Rup HO169) (Kd.R_base ho20) hb);have n2_:=Aside0.mk (Kd.R_elder' (Up.Rup HO172) (Kd.R_base ho20) hb);have n3_:=Aside0.mk (Kd.R_lower (Kd.R_new' (Kd.R_new' ho20 (Kd.R_lt (Up.Rup HO169))) (Kd.R_lt (Up.Rup HO172))) (below_size (Up.Bup HB)));have n4_:=Up.BB HB hb;clear HO_8 HO169 HO172 HB;have HO_8:=n0_;have HO169:=n1_;have HO172:=n2_;have HO175:=n3_;have HB:=n4_;clear n0_ n1_ n2_ n3_ n4_ hb ho20;obtain ⟨Ao22,co22,eo22⟩:=Kd.R_slice HO175.out;subst eo22) | ((with_reducible refine gate_builtin (b:=.append) (xs:=#[.tmp 27,.tmp 33]) rfl ?_);at_builtin;refine Kd.R_append_rows k46 (w0:=w) w.heap.size rfl (.tmp 27) (.tmp 33) 49 46 (.agg #[(.string ⟨#[]⟩),(.int .i64 0),(.int .i64 0)]) 32 rfl Tryd.underlying49 info46 rfl (by decide) (by omega) v171 y170 y173 _ _ _ (fun k_ => some k_ ≠ (.slice Ao18 y167.length co18 : Value).ownBlock ∧ some k_ ≠ (.slice Ao22 y173.length co22 : Value).ownBlock) (fun _ => False) rfl rfl ?aO ?aR (fun _ _ h => h) (fun _ h => h.elim) ?aF ?aB ?aS ?aL ?_;(case aR => repeat (first | exact (Kd.R_reads' HO175.out).2.2 | (with_reducible refine Kd.C_alloc ?_ _) | (with_reducible refine Kd.C_drewN ?_ _) | (with_reducible refine Kd.C_drew ?_)));(case aB => exact (Up.Bup HB));(case aF => exact (fun k_ hk => ⟨Kd.fresh' (Kd.R_lt (Up.Rup HO169)) k_ hk,Kd.fresh' (Kd.R_lt (Up.Rup HO175)) k_ hk⟩));(case aO => exact (Up.Rup HO172));(case aS => exact (below_size (Up.Bup HB)));(case aL => have:=LMc12.out;omega);intro v177 w21 ho hb hg hat;rw [← Ny176.out] at ho;have n0_:=Aside0.mk (Kd.R_over' (Up.Rup HO_8) (Kd.R_typed (Up.Rup HO172)) (by decide) hg);have n1_:=Aside0.mk (Kd.R_after (ok:=(fun k_ => some k_ ≠ (.slice Ao22 y173.length co22 : Value).ownBlock)) (Up.Rq (Kd.R_mono HO169.out (fun _ hk => ⟨hk.2,hk.1.2⟩))) hg hat);have n2_:=Aside0.mk (Kd.R_after (ok:=(fun k_ => some k_ ≠ (.slice Ao18 y167.length co18 : Value).ownBlock)) (Up.Rq (Kd.R_mono HO175.out (fun _ hk => ⟨hk.1.2,hk.2⟩))) hg hat);have n3_:=Aside0.mk (hb);have n4_:=Aside0.mk (ho);clear HO_8 HO169 HO175 HB HO172;have HO_8:=n0_;have HO169:=n1_;have HO175:=n2_;have HB:=n3_;have HO178:=n4_;clear n0_ n1_ n2_ n3_ n4_ ho hb hg hat) | ((with_reducible refine gate_dst (N:=40) rfl ?_);refine Kd.R_lit k46 _ 46 ?hg (N:=40) ?hd (xs:=([(⟨(⟨#[114,101,97,100]⟩ : ByteArray),0,0⟩ : S46),(⟨(⟨#[112,101,101,107]⟩ : ByteArray),0,0⟩ : S46),(⟨(⟨#[119,114,105,116,101]⟩ : ByteArray),0,0⟩ : S46),(⟨(⟨#[102,114,101,101,122,101]⟩ : ByteArray),0,0⟩ : S46)] : List (S46))) (inner:=[.string (⟨#[114,101,97,100]⟩ : ByteArray),.int .i64 0,.int .i64 0,.string (⟨#[112,101,101,107]⟩ : ByteArray),.int .i64 0,.int .i64 0,.string (⟨#[119,114,105,116,101]⟩ : ByteArray),.int .i64 0,.int .i64 0,.string (⟨#[102,114,101,101,122,101]⟩ : ByteArray),.int .i64 0,.int .i64 0]) (ok:=fun _ => True) (okp:=fun _ => True) ?hr ?hp (fun _ hk => hk) trivial (Below.refl _ _) (Nat.le_refl _) (by simp) ?_;(case hd => rfl);(case hg => rfl);(case hr => first | (go_simp;done) | (go_simp;rfl));(case hp => exact (Reps.c3 (show Kd.M k46 _ _ _ (⟨(⟨#[114,101,97,100]⟩ : ByteArray),0,0⟩ : S46) [.string (⟨#[114,101,97,100]⟩ : ByteArray),.int .i64 0,.int .i64 0] from (k46_mkM _ _ _ (⟨(⟨#[114,101,97,100]⟩ : ByteArray),0,0⟩ : S46) )) (Reps.c3 (show Kd.M k46 _ _ _ (⟨(⟨#[112,101,101,107]⟩ : ByteArray),0,0⟩ : S46) [.string (⟨#[112,101,101,107]⟩ : ByteArray),.int .i64 0,.int .i64 0] from (k46_mkM _ _ _ (⟨(⟨#[112,101,101,107]⟩ : ByteArray),0,0⟩ : S46) )) (Reps.c3 (show Kd.M k46 _ _ _ (⟨(⟨#[119,114,105,116,101]⟩ : ByteArray),0,0⟩ : S46) [.string (⟨#[119,114,105,116,101]⟩ : ByteArray),.int .i64 0,.int .i64 0] from (k46_mkM _ _ _ (⟨(⟨#[119,114,105,116,101]⟩ : ByteArray),0,0⟩ : S46) )) (Reps.c3 (show Kd.M k46 _ _ _ (⟨(⟨#[102,114,101,101,122,101]⟩ : ByteArray),0,0⟩ : S46) [.string (⟨#[102,114,101,101,122,101]⟩ : ByteArray),.int .i64 0,.int .i64 0] from (k46_mkM _ _ _ (⟨(⟨#[102,114,101,101,122,101]⟩ : ByteArray),0,0⟩ : S46) )) (Reps.none _ _))))));intro v180 w23 ho24 hb hg_ hnew_;clear hg_ hnew_;(first | rw [← Ny179.out] at ho24 | (simp only [Int.reduceToNat] at ho24;rw [← Ny179.out] at ho24));have n0_:=Up.RB HO_8 hb;have n1_:=Aside0.mk (Kd.R_elder' (Up.Rup HO169) (Kd.R_base ho24) hb);have n2_:=Aside0.mk (Kd.R_elder' (Up.Rup HO175) (Kd.R_base ho24) hb);have n3_:=Aside0.mk (Kd.R_elder' (Up.Rup HO178) (Kd.R_base ho24) hb);have n4_:=Aside0.mk (Kd.R_lower (Kd.R_new' (Kd.R_new' (Kd.R_new' ho24 (Kd.R_lt (Up.Rup HO169))) (Kd.R_lt (Up.Rup HO175))) (Kd.R_lt (Up.Rup HO178))) (below_size (Up.Bup HB)));have n5_:=Up.BB HB hb;clear HO_8 HO169 HO175 HO178 HB;have HO_8:=n0_;have HO169:=n1_;have HO175:=n2_;have HO178:=n3_;have HO181:=n4_;have HB:=n5_;clear n0_ n1_ n2_ n3_ n4_ n5_ hb ho24;obtain ⟨Ao26,co26,eo26⟩:=Kd.R_slice HO181.out;subst eo26) | ((with_reducible refine gate_builtin (b:=.append) (xs:=#[.tmp 35,.tmp 40]) rfl ?_);at_builtin;refine Kd.R_append_rows k46 (w0:=w) w.heap.size rfl (.tmp 35) (.tmp 40) 49 46 (.agg #[(.string ⟨#[]⟩),(.int .i64 0),(.int .i64 0)]) 32 rfl Tryd.underlying49 info46 rfl (by decide) (by omega) v177 y176 y179 _ _ _ (fun k_ => some k_ ≠ (.slice Ao18 y167.length co18 : Value).ownBlock ∧ some k_ ≠ (.slice Ao22 y173.length co22 : Value).ownBlock ∧ some k_ ≠ (.slice Ao26 y179.length co26 : Value).ownBlock) (fun _ => False) rfl rfl ?aO ?aR (fun _ _ h => h) (fun _ h => h.elim) ?aF ?aB ?aS ?aL ?_;(case aR => repeat (first | exact (Kd.R_reads' HO181.out).2.2 | (with_reducible refine Kd.C_alloc ?_ _) | (with_reducible refine Kd.C_drewN ?_ _) | (with_reducible refine Kd.C_drew ?_)));(case aB => exact (Up.Bup HB));(case aF => exact (fun k_ hk => ⟨Kd.fresh' (Kd.R_lt (Up.Rup HO169)) k_ hk,Kd.fresh' (Kd.R_lt (Up.Rup HO175)) k_ hk,Kd.fresh' (Kd.R_lt (Up.Rup HO181)) k_ hk⟩));(case aO => exact (Up.Rq (Kd.R_mono HO178.out (fun _ hk => ⟨hk.1.1,⟨hk.1.2,hk.2⟩⟩))));(case aS => exact (below_size (Up.Bup HB)));(case aL => have:=LMc13.out;omega);intro v183 w25 ho hb hg hat;rw [← Ny182.out] at ho;have n0_:=Aside0.mk (Kd.R_over' (Up.Rup HO_8) (Kd.R_typed (Up.Rup HO178)) (by decide) hg);have n1_:=Aside0.mk (Kd.R_after (ok:=(fun k_ => some k_ ≠ (.slice Ao22 y173.length co22 : Value).ownBlock ∧ some k_ ≠ (.slice Ao26 y179.length co26 : Value).ownBlock)) (Up.Rq (Kd.R_mono HO169.out (fun _ hk => ⟨⟨hk.1.1,hk.2⟩,hk.1.2⟩))) hg hat);have n2_:=Aside0.mk (Kd.R_after (ok:=(fun k_ => some k_ ≠ (.slice Ao18 y167.length co18 : Value).ownBlock ∧ some k_ ≠ (.slice Ao26 y179.length co26 : Value).ownBlock)) (Up.Rq (Kd.R_mono HO175.out (fun _ hk => ⟨⟨hk.1.1,hk.2⟩,hk.1.2⟩))) hg hat);have n3_:=Aside0.mk (Kd.R_after (ok:=(fun k_ => some k_ ≠ (.slice Ao18 y167.length co18 : Value).ownBlock ∧ some k_ ≠ (.slice Ao22 y173.length co22 : Value).ownBlock)) (Up.Rq (Kd.R_mono HO181.out (fun _ hk => ⟨⟨hk.1.1.2,hk.1.2⟩,hk.2⟩))) hg hat);have n4_:=Aside0.mk (hb);have n5_:=Aside0.mk (ho);clear HO_8 HO169 HO175 HO181 HB HO178;have HO_8:=n0_;have HO169:=n1_;have HO175:=n2_;have HO181:=n3_;have HB:=n4_;have HO184:=n5_;clear n0_ n1_ n2_ n3_ n4_ n5_ ho hb hg hat) | ((with_reducible refine gate_callee (f:=51) rfl ?_);refine Up.gl (some 42) Tryd.func51 #[.string (⟨#[107,101,101,112,32,116,97,107,101,32,104,97,115,32,115,101,101,32,115,101,101,119]⟩ : ByteArray)] ?_;(with_reducible refine (strings_Fields.calls (hT_:=?tab1) (⟨#[107,101,101,112,32,116,97,107,101,32,104,97,115,32,115,101,101,32,115,101,101,119]⟩ : ByteArray) t185 _ A14.out).mono ?_);(case tab1 => exact hT_.below (Up.Bx HB));rintro e w27 ⟨v186,rfl,ho0,hb⟩;refine ⟨_,rfl,?_⟩;have n0_:=Aside0.mk (Kd.R_elder' (Up.Rup HO_8) (Kd.R_base ho0) hb);have n1_:=Up.RB HO169 hb;have n2_:=Up.RB HO175 hb;have n3_:=Up.RB HO181 hb;have n4_:=Up.RB HO184 hb;have n5_:=Aside0.mk (Kd.R_lower (Kd.R_new' ho0 (Kd.R_lt (Up.Rup HO_8))) (below_size (Up.Bup HB)));have n6_:=Up.BB HB hb;clear HO_8 HO169 HO175 HO181 HO184 HB;have HO_8:=n0_;have HO169:=n1_;have HO175:=n2_;have HO181:=n3_;have HO184:=n4_;have HO187:=n5_;have HB:=n6_;clear n0_ n1_ n2_ n3_ n4_ n5_ n6_;(try clear hb);(try clear hb2);(try clear hk);(try clear hi);(try clear ho0);obtain ⟨Ao28,co28,eo28⟩:=Kd.R_slice HO187.out;subst eo28))
       go_loopg [1,44] k1 (fun kq v1 v44 w' => ∃ (x1_2 : List (S46)) (x44_2 : Int),v44 = .int .i64 x44_2 ∧ Aside0 (impl_insForms.l1 kq x1_2 t185 (t185.length : Int) x44_2 = some r) ∧ Aside0 (kq ≤ k1) ∧ Aside0 (Kd.R k46 46 w' w.heap.size (fun _ => True) v1 x1_2) ∧ Aside0 (Kd.R Kd.string 9 w' w.heap.size (fun _ => True) (.slice Ao28 t185.length co28) t185) ∧ Aside0 (Below w.heap.size w w'))
       case atStart => exact ⟨(y182),(0),(by first | rfl | (simp;done) | (simp [*];done)),H',⟨Nat.le_refl _⟩,⟨by (with_reducible repeat (first | apply Kd.R_alloc | apply Kd.R_drewN | apply Kd.R_drew));exact Kd.R_mono HO184.out (fun _ hk => trivial)⟩,⟨by (with_reducible repeat (first | apply Kd.R_alloc | apply Kd.R_drewN | apply Kd.R_drew));exact Kd.R_mono HO187.out (fun _ hk => trivial)⟩,⟨Up.Bup HB⟩⟩
       case round =>
        clear H'
        try clear c1
        try clear p1
        try clear q1
        try clear hx1
        try clear p2
        try clear c3
        try clear c5
        try clear c6
        try clear c6b0
        try clear p6
        try clear c7
        try clear c7b0
        try clear c8
        try clear c8b0
        try clear c9
        try clear c11
        try clear c12
        try clear c13
        try clear p16
        try clear q16
        try clear hx16
        try clear hx163_0
        try clear p163
        try clear p2
        try clear q163
        obtain ⟨x1_2,x44_2,rfl,HA,HK2,HO_1,HO_42,HB⟩:=hrel
        cases gk with
        | zero => exact absurd HA.out (by simp [impl_insForms.l1])
        | succ k2 =>
         have H:=HA.out
         clear HA
         simp only [impl_insForms.l1] at H
         by_cases c29 : x44_2 < (t185.length : Int)
         ·rw [if_pos c29] at H
          have c29b0 : decide (x44_2 < (t185.length : Int)) = true:=decide_eq_true c29
          clear c29
          by_cases c30 : 0 ≤ x44_2
          ·rw [if_pos c30] at H
           have c30b0 : decide (0 ≤ x44_2) = true:=decide_eq_true c30
           clear c30
           by_cases c31 : x44_2 < (t185.length : Int)
           ·rw [if_pos c31] at H
            have c31b0 : decide (x44_2 < (t185.length : Int)) = true:=decide_eq_true c31
            clear c31
            by_cases c32 : x1_2.length < 4398046511104
            ·rw [if_pos c32] at H
             have LMc32:=Aside0.mk c32
             clear c32
             obtain ⟨y189,hy189⟩ : ∃ y_ : List (S46),y_ = (x1_2 ++ [(⟨rdOf ByteArray.empty t185 x44_2,3,0⟩ : S46)]):=⟨_,rfl⟩
             replace H : (impl_insForms.l1 k2 y189 t185 (t185.length : Int) (wrap64 (x44_2 + 1))) = some r:=by first | (rw [hy189];with_reducible exact H) | (have H2_:=(Option.bind_some _ _).symm.trans H;rw [hy189];with_reducible exact H2_) | (have H2_:=(Option.bind_some _ _).symm.trans H;with_reducible exact H2_) | with_reducible exact H | (rw [hy189];exact H) | exact H
             have Ny189:=Aside0.mk hy189
             clear hy189
             have H':=Aside0.mk H
             clear H
             have p188 : 0 ≤ (x44_2 : Int):=Up.od
             have q188 : x44_2 < (t185.length : Int):=Up.od
             obtain ⟨ad188,e188,hx188_0⟩:=Kd.at_string (Kd.R_reads' HO_42.out).2.2 x44_2 p188 q188
             cases e188
             replace p188:=eq_true p188
             replace q188:=eq_true q188
             go_wp2_with (first | ((with_reducible refine gate_builtin (b:=.append) (xs:=#[.tmp 48,.tmp 51]) rfl ?_);at_builtin;refine Kd.R_append k46 (w0:=w) w.heap.size rfl (.tmp 48) (.tmp 51) 49 46 (.agg #[(.string ⟨#[]⟩),(.int .i64 0),(.int .i64 0)]) 32 rfl Tryd.underlying49 info46 rfl (by decide) (by omega) u1 x1_2 (⟨rdOf ByteArray.empty t185 x44_2,3,0⟩ : S46) [.string (rdOf ByteArray.empty t185 x44_2),.int .i64 3,.int .i64 0] (fun _ => True) (fun _ => False) rfl rfl ?aP (fun _ hk => hk.elim) ?aF ?aO ?aB ?aS ?aL ?_;(case aP => exact k46_mkM _ _ _ (⟨rdOf ByteArray.empty t185 x44_2,3,0⟩ : S46));(case aB => exact (Up.Bup HB));(case aF => exact (fun _ _ => trivial));(case aO => exact (Up.Rup HO_1));(case aS => exact (below_size (Up.Bup HB)));(case aL => have:=LMc32.out;omega);intro v190 w33 ho hb hg hat;rw [← Ny189.out] at ho;have n0_:=Aside0.mk (Kd.R_over' (Up.Rup HO_42) (Kd.R_typed (Up.Rup HO_1)) (by decide) hg);have n1_:=Aside0.mk (hb);have n2_:=Aside0.mk (ho);clear HO_42 HB HO_1;have HO_42:=n0_;have HB:=n1_;have HO191:=n2_;clear n0_ n1_ n2_ ho hb hg hat))
             go_roundg k2
             case measure => have:=HK1.out;have:=HK2.out;omega
             case rel => exact ⟨(y189),(wrap64 (x44_2 + 1)),(by first | rfl | (simp;done) | (simp [*];done)),H',⟨by have:=HK1.out;have:=HK2.out;omega⟩,⟨Up.Rup HO191⟩,⟨Up.Rup HO_42⟩,⟨Up.Bup HB⟩⟩
            ·rw [if_neg c32] at H
             exact absurd H (by simp)
           ·rw [if_neg c31] at H
            exact absurd H (by simp)
          ·rw [if_neg c30] at H
           exact absurd H (by simp)
         ·rw [if_neg c29] at H
          have c29b0 : decide (x44_2 < (t185.length : Int)) = false:=decide_eq_false c29
          clear c29
          obtain ⟨y192,hy192⟩ : ∃ y_ : List (S46),y_ = (([(⟨(⟨#[106,117,109,112]⟩ : ByteArray),40,0⟩ : S46),(⟨(⟨#[122,101,114,111]⟩ : ByteArray),40,0⟩ : S46),(⟨(⟨#[99,97,108,108]⟩ : ByteArray),3,4⟩ : S46),(⟨(⟨#[114,101,116]⟩ : ByteArray),0,0⟩ : S46),(⟨(⟨#[102,97,105,108]⟩ : ByteArray),0,0⟩ : S46)] : List (S46))):=⟨_,rfl⟩
          replace H : (if x1_2.length + y192.length < 4398046511104 then (some (x1_2 ++ y192)) else (none)) = some r:=by first | (rw [hy192];with_reducible exact H) | (have H2_:=(Option.bind_some _ _).symm.trans H;rw [hy192];with_reducible exact H2_) | (have H2_:=(Option.bind_some _ _).symm.trans H;with_reducible exact H2_) | with_reducible exact H | (rw [hy192];exact H) | exact H
          have Ny192:=Aside0.mk hy192
          clear hy192
          by_cases c34 : x1_2.length + y192.length < 4398046511104
          ·rw [if_pos c34] at H
           have LMc34:=Aside0.mk c34
           clear c34
           obtain ⟨y195,hy195⟩ : ∃ y_ : List (S46),y_ = (x1_2 ++ y192):=⟨_,rfl⟩
           replace H : (some y195) = some r:=by first | (rw [hy195];with_reducible exact H) | (have H2_:=(Option.bind_some _ _).symm.trans H;rw [hy195];with_reducible exact H2_) | (have H2_:=(Option.bind_some _ _).symm.trans H;with_reducible exact H2_) | with_reducible exact H | (rw [hy195];exact H) | exact H
           have Ny195:=Aside0.mk hy195
           clear hy195
           obtain rfl:=Option.some.inj H
           go_wp2_with (first | ((with_reducible refine gate_dst (N:=60) rfl ?_);refine Kd.R_lit k46 _ 46 ?hg (N:=60) ?hd (xs:=([(⟨(⟨#[106,117,109,112]⟩ : ByteArray),40,0⟩ : S46),(⟨(⟨#[122,101,114,111]⟩ : ByteArray),40,0⟩ : S46),(⟨(⟨#[99,97,108,108]⟩ : ByteArray),3,4⟩ : S46),(⟨(⟨#[114,101,116]⟩ : ByteArray),0,0⟩ : S46),(⟨(⟨#[102,97,105,108]⟩ : ByteArray),0,0⟩ : S46)] : List (S46))) (inner:=[.string (⟨#[106,117,109,112]⟩ : ByteArray),.int .i64 40,.int .i64 0,.string (⟨#[122,101,114,111]⟩ : ByteArray),.int .i64 40,.int .i64 0,.string (⟨#[99,97,108,108]⟩ : ByteArray),.int .i64 3,.int .i64 4,.string (⟨#[114,101,116]⟩ : ByteArray),.int .i64 0,.int .i64 0,.string (⟨#[102,97,105,108]⟩ : ByteArray),.int .i64 0,.int .i64 0]) (ok:=fun _ => True) (okp:=fun _ => True) ?hr ?hp (fun _ hk => hk) trivial (Below.refl _ _) (Nat.le_refl _) (by simp) ?_;(case hd => rfl);(case hg => rfl);(case hr => first | (go_simp;done) | (go_simp;rfl));(case hp => exact (Reps.c3 (show Kd.M k46 _ _ _ (⟨(⟨#[106,117,109,112]⟩ : ByteArray),40,0⟩ : S46) [.string (⟨#[106,117,109,112]⟩ : ByteArray),.int .i64 40,.int .i64 0] from (k46_mkM _ _ _ (⟨(⟨#[106,117,109,112]⟩ : ByteArray),40,0⟩ : S46) )) (Reps.c3 (show Kd.M k46 _ _ _ (⟨(⟨#[122,101,114,111]⟩ : ByteArray),40,0⟩ : S46) [.string (⟨#[122,101,114,111]⟩ : ByteArray),.int .i64 40,.int .i64 0] from (k46_mkM _ _ _ (⟨(⟨#[122,101,114,111]⟩ : ByteArray),40,0⟩ : S46) )) (Reps.c3 (show Kd.M k46 _ _ _ (⟨(⟨#[99,97,108,108]⟩ : ByteArray),3,4⟩ : S46) [.string (⟨#[99,97,108,108]⟩ : ByteArray),.int .i64 3,.int .i64 4] from (k46_mkM _ _ _ (⟨(⟨#[99,97,108,108]⟩ : ByteArray),3,4⟩ : S46) )) (Reps.c3 (show Kd.M k46 _ _ _ (⟨(⟨#[114,101,116]⟩ : ByteArray),0,0⟩ : S46) [.string (⟨#[114,101,116]⟩ : ByteArray),.int .i64 0,.int .i64 0] from (k46_mkM _ _ _ (⟨(⟨#[114,101,116]⟩ : ByteArray),0,0⟩ : S46) )) (Reps.c3 (show Kd.M k46 _ _ _ (⟨(⟨#[102,97,105,108]⟩ : ByteArray),0,0⟩ : S46) [.string (⟨#[102,97,105,108]⟩ : ByteArray),.int .i64 0,.int .i64 0] from (k46_mkM _ _ _ (⟨(⟨#[102,97,105,108]⟩ : ByteArray),0,0⟩ : S46) )) (Reps.none _ _)))))));intro v193 w35 ho36 hb hg_ hnew_;clear hg_ hnew_;(first | rw [← Ny192.out] at ho36 | (simp only [Int.reduceToNat] at ho36;rw [← Ny192.out] at ho36));have n0_:=Aside0.mk (Kd.R_elder' (Up.Rup HO_1) (Kd.R_base ho36) hb);have n1_:=Up.RB HO_42 hb;have n2_:=Aside0.mk (Kd.R_lower (Kd.R_new' ho36 (Kd.R_lt (Up.Rup HO_1))) (below_size (Up.Bup HB)));have n3_:=Up.BB HB hb;clear HO_1 HO_42 HB;have HO_1:=n0_;have HO_42:=n1_;have HO194:=n2_;have HB:=n3_;clear n0_ n1_ n2_ n3_ hb ho36;obtain ⟨Ao38,co38,eo38⟩:=Kd.R_slice HO194.out;subst eo38) | ((with_reducible refine gate_builtin (b:=.append) (xs:=#[.tmp 54,.tmp 60]) rfl ?_);at_builtin;refine Kd.R_append_rows k46 (w0:=w) w.heap.size rfl (.tmp 54) (.tmp 60) 49 46 (.agg #[(.string ⟨#[]⟩),(.int .i64 0),(.int .i64 0)]) 32 rfl Tryd.underlying49 info46 rfl (by decide) (by omega) u1 x1_2 y192 _ _ _ (fun k_ => some k_ ≠ (.slice Ao38 y192.length co38 : Value).ownBlock) (fun _ => False) rfl rfl ?aO ?aR (fun _ _ h => h) (fun _ h => h.elim) ?aF ?aB ?aS ?aL ?_;(case aR => repeat (first | exact (Kd.R_reads' HO194.out).2.2 | (with_reducible refine Kd.C_alloc ?_ _) | (with_reducible refine Kd.C_drewN ?_ _) | (with_reducible refine Kd.C_drew ?_)));(case aB => exact (Up.Bup HB));(case aF => exact (fun k_ hk => Kd.fresh' (Kd.R_lt (Up.Rup HO194)) k_ hk));(case aO => exact (Up.Rq (Kd.R_mono HO_1.out (fun _ hk => hk.2))));(case aS => exact (below_size (Up.Bup HB)));(case aL => have:=LMc34.out;omega);intro v196 w37 ho hb hg hat;rw [← Ny195.out] at ho;have n0_:=Aside0.mk (Kd.R_over' (Up.Rup HO_42) (Kd.R_typed (Up.Rup HO_1)) (by decide) hg);have n1_:=Aside0.mk (Kd.R_after (ok:=(fun _ => True)) (Up.Rup HO194) hg hat);have n2_:=Aside0.mk (hb);have n3_:=Aside0.mk (ho);clear HO_42 HO194 HB HO_1;have HO_42:=n0_;have HO194:=n1_;have HB:=n2_;have HO197:=n3_;clear n0_ n1_ n2_ n3_ ho hb hg hat))
           go_ret
           exact ⟨_,by first | rfl | (simp [errW_none,errW_some] <;> rfl) | (simp [*,errW_none,errW_some] <;> rfl),by (with_reducible repeat (first | apply Kd.R_alloc | apply Kd.R_drewN | apply Kd.R_drew));exact Kd.R_mono HO197.out (fun _ hk => trivial),Up.Bup HB⟩
          ·rw [if_neg c34] at H
           exact absurd H (by simp)
      ·rw [if_neg c13] at H
       exact absurd H (by simp)
     ·rw [if_neg c12] at H
      exact absurd H (by simp)
    ·rw [if_neg c11] at H
     exact absurd H (by simp)

/-! ### impl_formOf: function 32 -/
def impl_formOf.l0 : Nat → ByteArray → List (S46) → Int → Int → Option (ByteArray × Int × Int × Bool)
 | 0,_,_,_,_ => none
 | k + 1,x0,x6,x7,x8 => if x8 < x7 then (if 0 ≤ x8 then (if x8 < (x6.length : Int) then (if ((rd_T46 x6 x8).f0).toList = x0.toList then (some ((rd_T46 x6 x8).f0,(rd_T46 x6 x8).f1,(rd_T46 x6 x8).f2,true)) else (impl_formOf.l0 k x0 x6 x7 (wrap64 (x8 + 1)))) else (none)) else (none)) else (some ((⟨#[]⟩ : ByteArray),0,0,false))
def impl_formOf.f (k : Nat) (a0 : ByteArray) : Option (ByteArray × Int × Int × Bool):=(impl_insForms.f k).bind fun t199 => (impl_formOf.l0 k a0 t199 (t199.length : Int) 0)
theorem impl_formOf.mono_l : ∀ k,(∀ y0 y1 y2 y3,LeO (impl_formOf.l0 k y0 y1 y2 y3) (impl_formOf.l0 (k + 1) y0 y1 y2 y3))
 | 0 => fun _ _ _ _ r h => by simp [impl_formOf.l0] at h
 | k + 1 => by
  have ih0:=impl_formOf.mono_l k
  ·intro y0 y1 y2 y3
   unfold impl_formOf.l0
   repeat' first
   | (with_reducible exact ih0 _ _ _ _)
   | (with_reducible exact impl_insForms.mono _)
   | (with_reducible exact LeO.refl _)
   | (with_reducible exact LeO.none _)
   | (with_reducible refine LeO.ite ?_ ?_)
   | (with_reducible refine LeO.bind ?_ (fun _ => ?_))
   | exact ih0 _ _ _ _
   | exact impl_insForms.mono _
   | exact LeO.none _
   | refine LeO.ite ?_ ?_
   | refine LeO.bind ?_ (fun _ => ?_)
theorem impl_formOf.mono : ∀ a0 k,LeO (impl_formOf.f k a0) (impl_formOf.f (k + 1) a0):=by
 intro a0 k
 have ih0:=impl_formOf.mono_l k
 unfold impl_formOf.f
 repeat' first
   | (with_reducible exact ih0 _ _ _ _)
   | (with_reducible exact impl_insForms.mono _)
   | (with_reducible exact LeO.refl _)
   | (with_reducible exact LeO.none _)
   | (with_reducible refine LeO.ite ?_ ?_)
   | (with_reducible refine LeO.bind ?_ (fun _ => ?_))
   | exact ih0 _ _ _ _
   | exact impl_insForms.mono _
   | exact LeO.none _
   | refine LeO.ite ?_ ?_
   | refine LeO.bind ?_ (fun _ => ?_)
set_option maxHeartbeats 8000000 in
set_option maxRecDepth 100000 in
theorem impl_formOf.calls (k : Nat) (a0 : ByteArray) (r1 : ByteArray) (r2 : Int) (r3 : Int) (r4 : Bool) (w : World) (hT_ : Tab w) (h : impl_formOf.f k a0 = some (r1,r2,r3,r4)) :
  Calls Tryd.prog 32 #[.string a0] w fun e w' => e = .returned (.tuple #[.agg #[.string r1,.int .i64 r2,.int .i64 r3],.bool r4]) ∧ Below w.heap.size w w':=by
 have hu46:=Tryd.underlying46
 have HB:=Aside0.mk (Below.refl w.heap.size w)
 have H : ((impl_insForms.f k).bind fun t199 => (impl_formOf.l0 k a0 t199 (t199.length : Int) 0)) = some (r1,r2,r3,r4):=h
 clear h
 replace H:=Option.bind_eq_some_iff.mp H
 obtain ⟨t199,A20,H⟩:=H
 replace H : (impl_formOf.l0 k a0 t199 (t199.length : Int) 0) = some (r1,r2,r3,r4):=H
 have A2:=Aside0.mk A20
 clear A20
 have H':=Aside0.mk H
 clear H
 go_enter Tryd.func32,Tryd.ntmps32
 go_wp2_with (first | ((with_reducible refine gate_dst (N:=2) rfl ?_);refine Up.bx 2 46 #[.string (⟨#[]⟩ : ByteArray),.int .i64 0,.int .i64 0] ?_;intro gb198 hg w3 hbox hb;have n0_:=Up.BB HB hb;have n1_:=Aside0.mk (hbox);have n2_:=Up.gw hg HB;have n3_:=Up.gw hg HB;clear HB;have HB:=n0_;have BK198:=n1_;have GW198:=n2_;have GE198:=n3_;clear n0_ n1_ n2_ n3_ hb hbox hg) | ((with_reducible refine gate_callee (f:=34) rfl ?_);refine Up.gl (some 6) Tryd.func34 #[] ?_;(with_reducible refine (impl_insForms.calls (hT_:=?tab1) k  t199 _ A2.out).mono ?_);(case tab1 => exact hT_.below (Up.Bx HB));rintro e w4 ⟨v200,rfl,ho0,hb⟩;refine ⟨_,rfl,?_⟩;have n0_:=Aside0.mk (Kd.R_lower (Kd.R_newB ho0 (g:=gb198) (o:=.cells #[.string (⟨#[]⟩ : ByteArray),.int .i64 0,.int .i64 0] 46 (0,0)) (Up.Kup BK198)) (below_size (Up.Bx HB)));have n1_:=Up.KB BK198 hb;have n2_:=Aside0.mk (below_step (Up.Bx HB) hb);clear BK198 HB;have HO201:=n0_;have BK198:=n1_;have HB:=n2_;clear n0_ n1_ n2_;(try clear hb);(try clear hb2);(try clear hk);(try clear hi);(try clear ho0);obtain ⟨Ao5,co5,eo5⟩:=Kd.R_slice HO201.out;subst eo5))
 go_loopg [8] k (fun kq v8 w' => ∃ (x8_1 : Int) (x199000_1 : ByteArray) (x199001_1 : Int) (x199002_1 : Int),v8 = .int .i64 x8_1 ∧ Aside0 (impl_formOf.l0 kq a0 t199 (t199.length : Int) x8_1 = some (r1,r2,r3,r4)) ∧ Aside0 (kq ≤ k) ∧ Aside0 (Kd.R k46 46 w' w.heap.size (fun k_ => k_ ≠ gb198) (.slice Ao5 t199.length co5) t199) ∧ Aside0 (w'.heap[gb198]? = some (.cells #[.string x199000_1,.int .i64 x199001_1,.int .i64 x199002_1] 46 (0,0))) ∧ Aside0 (Below w.heap.size w w'))
 case atStart => exact ⟨(0),((⟨#[]⟩ : ByteArray)),(0),(0),(by first | rfl | (simp;done) | (simp [*];done)),H',⟨Nat.le_refl _⟩,⟨by (with_reducible repeat (first | apply Kd.R_alloc | apply Kd.R_drewN | apply Kd.R_drew));exact Kd.R_mono HO201.out (fun _ hk => hk.2)⟩,⟨by (with_reducible repeat (first | refine blk_drewN ?_ _ | refine blk_drew ?_ | refine blk_alloc ?_ _));exact BK198.out⟩,⟨Up.Bx HB⟩⟩
 case round =>
  clear H'
  try clear p2
  try clear c3
  obtain ⟨x8_1,x199000_1,x199001_1,x199002_1,rfl,HA,HK1,HO_6,BK198,HB⟩:=hrel
  cases gk with
  | zero => exact absurd HA.out (by simp [impl_formOf.l0])
  | succ k1 =>
   have H:=HA.out
   clear HA
   simp only [impl_formOf.l0] at H
   by_cases c6 : x8_1 < (t199.length : Int)
   ·rw [if_pos c6] at H
    have c6b0 : decide (x8_1 < (t199.length : Int)) = true:=decide_eq_true c6
    clear c6
    by_cases c7 : 0 ≤ x8_1
    ·rw [if_pos c7] at H
     have c7b0 : decide (0 ≤ x8_1) = true:=decide_eq_true c7
     clear c7
     by_cases c8 : x8_1 < (t199.length : Int)
     ·rw [if_pos c8] at H
      have c8b0 : decide (x8_1 < (t199.length : Int)) = true:=decide_eq_true c8
      clear c8
      by_cases c9 : ((rd_T46 t199 x8_1).f0).toList = a0.toList
      ·rw [if_pos c9] at H
       have c9b0 : (((rd_T46 t199 x8_1).f0).toList == a0.toList) = true:=beq_iff_eq.mpr c9
       have c9b1 : (((rd_T46 t199 x8_1).f0).toList != a0.toList) = false:=bne_eq_false_iff_eq.mpr c9
       clear c9
       simp only [Option.some.injEq,Prod.mk.injEq] at H
       obtain ⟨rfl,rfl,rfl,rfl⟩:=H
       have p202 : 0 ≤ (x8_1 : Int):=Up.od
       have q202 : x8_1 < (t199.length : Int):=Up.od
       obtain ⟨ad202,e202,hx202_0,hx202_1,hx202_2⟩:=at_T46 (Kd.R_reads' HO_6.out).2.2 x8_1 p202 q202
       cases e202
       replace p202:=eq_true p202
       replace q202:=eq_true q202
       go_wp2_with (first | ((with_reducible refine gate_dst (N:=5) rfl ?_);refine Up.bx 5 46 #[.string (⟨#[]⟩ : ByteArray),.int .i64 0,.int .i64 0] ?_;intro gb203 hg w10 hbox hb;have n0_:=Aside0.mk (Kd.R_below (Kd.R_elderB (Up.Rup HO_6) gb203 (Nat.le_of_eq hg.symm)) hb);have n1_:=Up.KB BK198 hb;have n2_:=Aside0.mk (below_step (Up.Bx HB) hb);have n3_:=Aside0.mk (hbox);have n4_:=Up.gw hg HB;have n5_:=Up.gw hg HB;have n6_:=Up.nl hg BK198;have n7_:=Up.ng hg BK198;clear HO_6 BK198 HB;have HO_6:=n0_;have BK198:=n1_;have HB:=n2_;have BK203:=n3_;have GW203:=n4_;have GE203:=n5_;have NB198_203:=n6_;have NB203_198:=n7_;clear n0_ n1_ n2_ n3_ n4_ n5_ n6_ n7_ hb hbox hg;have hnb11:=NB203_198.out;have hnc11:=NB198_203.out;have hcz12_0:=Up.c0 BK203;have hcz12_1:=Up.c1 BK203;have hcz12_2:=Up.c2 BK203;have hfz12_0:=blk_frozen BK203.out 0;have hfz12_1:=blk_frozen BK203.out 1;have hfz12_2:=blk_frozen BK203.out 2;have hcz13_0:=Up.c0 BK198;have hcz13_1:=Up.c1 BK198;have hcz13_2:=Up.c2 BK198;have hfz13_0:=blk_frozen BK198.out 0;have hfz13_1:=blk_frozen BK198.out 1;have hfz13_2:=blk_frozen BK198.out 2))
       refine bodyPost_ret (results_ct rfl _ _ gb198 46 #[.string ((rd_T46 t199 x8_1).f0),.int .i64 ((rd_T46 t199 x8_1).f1),.int .i64 ((rd_T46 t199 x8_1).f2)] (0,0) _ rfl (Up.Kx BK198) Tryd.underlying46 rfl (by kernel_rfl)) rfl ?_
       exact Up.e1 (Up.Bx HB)
      ·rw [if_neg c9] at H
       have c9b0 : (((rd_T46 t199 x8_1).f0).toList == a0.toList) = false:=beq_eq_false_iff_ne.mpr c9
       have c9b1 : (((rd_T46 t199 x8_1).f0).toList != a0.toList) = true:=bne_iff_ne.mpr c9
       have H':=Aside0.mk H
       clear H
       have p202 : 0 ≤ (x8_1 : Int):=Up.od
       have q202 : x8_1 < (t199.length : Int):=Up.od
       obtain ⟨ad202,e202,hx202_0,hx202_1,hx202_2⟩:=at_T46 (Kd.R_reads' HO_6.out).2.2 x8_1 p202 q202
       cases e202
       replace p202:=eq_true p202
       replace q202:=eq_true q202
       go_wp2_with (first | ((with_reducible refine gate_dst (N:=5) rfl ?_);refine Up.bx 5 46 #[.string (⟨#[]⟩ : ByteArray),.int .i64 0,.int .i64 0] ?_;intro gb203 hg w14 hbox hb;have n0_:=Aside0.mk (Kd.R_below (Kd.R_elderB (Up.Rup HO_6) gb203 (Nat.le_of_eq hg.symm)) hb);have n1_:=Up.KB BK198 hb;have n2_:=Aside0.mk (below_step (Up.Bx HB) hb);have n3_:=Aside0.mk (hbox);have n4_:=Up.gw hg HB;have n5_:=Up.gw hg HB;have n6_:=Up.nl hg BK198;have n7_:=Up.ng hg BK198;clear HO_6 BK198 HB;have HO_6:=n0_;have BK198:=n1_;have HB:=n2_;have BK203:=n3_;have GW203:=n4_;have GE203:=n5_;have NB198_203:=n6_;have NB203_198:=n7_;clear n0_ n1_ n2_ n3_ n4_ n5_ n6_ n7_ hb hbox hg;have hnb15:=NB203_198.out;have hnc15:=NB198_203.out;have hcz16_0:=Up.c0 BK203;have hcz16_1:=Up.c1 BK203;have hcz16_2:=Up.c2 BK203;have hfz16_0:=blk_frozen BK203.out 0;have hfz16_1:=blk_frozen BK203.out 1;have hfz16_2:=blk_frozen BK203.out 2))
       go_roundg k1
       case measure => have:=HK1.out;omega
       case rel => exact ⟨(wrap64 (x8_1 + 1)),(x199000_1),(x199001_1),(x199002_1),(by first | rfl | (simp;done) | (simp [*];done)),H',⟨by have:=HK1.out;omega⟩,⟨by (with_reducible repeat (first | apply Kd.R_alloc | apply Kd.R_drewN | apply Kd.R_drew));exact Kd.R_mono (Kd.R_far (p:=⟨gb203,2,none⟩) (Kd.R_far (p:=⟨gb203,1,none⟩) (Kd.R_far (p:=⟨gb203,0,none⟩) (Kd.R_mono HO_6.out (fun k_ hk => (⟨hk,hk.2⟩ : _ ∧ k_ ≠ gb203))) (fun _ hk => hk.2) (.string ((rd_T46 t199 x8_1).f0))) (fun _ hk => hk.2) (.int .i64 ((rd_T46 t199 x8_1).f1))) (fun _ hk => hk.2) (.int .i64 ((rd_T46 t199 x8_1).f2))) (fun _ hk => hk.1.1)⟩,⟨by (with_reducible repeat (first | refine blk_drewN ?_ _ | refine blk_drew ?_ | refine blk_alloc ?_ _));refine blk_far ?_ NB198_203.out _;(with_reducible repeat (first | refine blk_drewN ?_ _ | refine blk_drew ?_ | refine blk_alloc ?_ _));refine blk_far ?_ NB198_203.out _;(with_reducible repeat (first | refine blk_drewN ?_ _ | refine blk_drew ?_ | refine blk_alloc ?_ _));refine blk_far ?_ NB198_203.out _;(with_reducible repeat (first | refine blk_drewN ?_ _ | refine blk_drew ?_ | refine blk_alloc ?_ _));exact BK198.out⟩,⟨Up.Bx HB⟩⟩
     ·rw [if_neg c8] at H
      exact absurd H (by simp)
    ·rw [if_neg c7] at H
     exact absurd H (by simp)
   ·rw [if_neg c6] at H
    have c6b0 : decide (x8_1 < (t199.length : Int)) = false:=decide_eq_false c6
    clear c6
    simp only [Option.some.injEq,Prod.mk.injEq] at H
    obtain ⟨rfl,rfl,rfl,rfl⟩:=H
    have hcz17_0:=Up.c0 BK198
    have hcz17_1:=Up.c1 BK198
    have hcz17_2:=Up.c2 BK198
    have hfz17_0:=blk_frozen BK198.out 0
    have hfz17_1:=blk_frozen BK198.out 1
    have hfz17_2:=blk_frozen BK198.out 2
    go_wp2
    refine bodyPost_ret (results_ct rfl _ _ gb198 46 #[.string (⟨#[]⟩ : ByteArray),.int .i64 0,.int .i64 0] (0,0) _ rfl (Up.Kx BK198) Tryd.underlying46 rfl (by kernel_rfl)) rfl ?_
    exact Up.e1 (Up.Bx HB)

end Go.Proofs.YtfkhjnmgaadomaaDoor.OFnExactInsRead
