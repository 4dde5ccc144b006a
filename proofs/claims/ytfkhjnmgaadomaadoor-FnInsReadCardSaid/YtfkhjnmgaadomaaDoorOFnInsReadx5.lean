-- Laid by a program of this session (wip/myprint.py): the kit's print of the functions, contracts of our own among them.
import Derived.Test.YtfkhjnmgaadomaaDoorOFnInsReadx0
import Derived.Test.YtfkhjnmgaadomaaDoorOFnInsReadx2
import Derived.Test.YtfkhjnmgaadomaaDoorOFnInsReadx3
import Derived.Test.YtfkhjnmgaadomaaDoorOFnInsReadx4
namespace Go.Proofs.YtfkhjnmgaadomaaDoor.OFnInsRead
open Go.RowKit Go.Proofs.YtfkhjnmgaadomaaDoorW.PrintWords Go.Proofs.YtfkhjnmgaadomaaDoorW.PrintLast Go.Proofs.YtfkhjnmgaadomaaDoorW.PrintMore
attribute [local go_sem] max2_int min2_int max_two min_two max_three min_three max_four min_four   -- for this text's walks alone
set_option linter.unusedVariables false
set_option linter.unusedSimpArgs false

/-! ### spec_InsRead: function 25 -/
mutual
def spec_InsRead.j0 : Nat → ByteArray → List ByteArray → ByteArray → Int → Int → Option (ByteArray × Int × Int × Bool)
 | 0,_,_,_,_,_ => none
 | k + 1,x0,x4,x220000,x220001,x220002 => if (x4.length : Int) > 2 then (if 2 < (x4.length : Int) then ((spec_l3Number.f k (rdOf ByteArray.empty x4 2)).bind fun t223 => (spec_InsRead.j1 k x0 x220000 x220001 t223)) else (none)) else (spec_InsRead.j1 k x0 x220000 x220001 x220002)
def spec_InsRead.j1 : Nat → ByteArray → ByteArray → Int → Int → Option (ByteArray × Int × Int × Bool)
 | 0,_,_,_,_ => none
 | k + 1,x0,x220000,x220001,x220002 => (spec_InsOk.f k x220000 x220001 x220002).bind fun t224 => (if t224 = true then ((spec_InsText.f k x220000 x220001 x220002).bind fun t225 => (if t225.toList = x0.toList then (some (x220000,x220001,x220002,true)) else (some ((⟨#[]⟩ : ByteArray),0,0,false)))) else (some ((⟨#[]⟩ : ByteArray),0,0,false)))
end
def spec_InsRead.f (k : Nat) (a0 : ByteArray) : Option (ByteArray × Int × Int × Bool):=if (a0.size : Int) > 40 then (some ((⟨#[]⟩ : ByteArray),0,0,false)) else ((spec_l3Words.f k a0).bind fun t215 => (if 0 < (t215.length : Int) then (if (t215.length : Int) > 1 then (if 1 < (t215.length : Int) then ((spec_l3Number.f k (rdOf ByteArray.empty t215 1)).bind fun t221 => (spec_InsRead.j0 k a0 t215 (rdOf ByteArray.empty t215 0) t221 0)) else (none)) else (spec_InsRead.j0 k a0 t215 (rdOf ByteArray.empty t215 0) 0 0)) else (none)))
theorem spec_InsRead.mono_l : ∀ k,(∀ y0 y1 y2 y3 y4,LeO (spec_InsRead.j0 k y0 y1 y2 y3 y4) (spec_InsRead.j0 (k + 1) y0 y1 y2 y3 y4)) ∧ (∀ y0 y1 y2 y3,LeO (spec_InsRead.j1 k y0 y1 y2 y3) (spec_InsRead.j1 (k + 1) y0 y1 y2 y3))
 | 0 => ⟨fun _ _ _ _ _ r h => by simp [spec_InsRead.j0] at h,fun _ _ _ _ r h => by simp [spec_InsRead.j1] at h⟩
 | k + 1 => by
  obtain ⟨ih0,ih1⟩:=spec_InsRead.mono_l k
  refine ⟨?_,?_⟩
  ·intro y0 y1 y2 y3 y4
   unfold spec_InsRead.j0
   repeat' first
   | (with_reducible exact ih0 _ _ _ _ _)
   | (with_reducible exact ih1 _ _ _ _)
   | (with_reducible exact spec_InsOk.mono _ _ _ _)
   | (with_reducible exact spec_InsText.mono _ _ _ _)
   | (with_reducible exact spec_l3Number.mono _ _)
   | (with_reducible exact spec_l3Words.mono _ _)
   | (with_reducible exact LeO.refl _)
   | (with_reducible exact LeO.none _)
   | (with_reducible refine LeO.ite ?_ ?_)
   | (with_reducible refine LeO.bind ?_ (fun _ => ?_))
   | exact ih0 _ _ _ _ _
   | exact ih1 _ _ _ _
   | exact spec_InsOk.mono _ _ _ _
   | exact spec_InsText.mono _ _ _ _
   | exact spec_l3Number.mono _ _
   | exact spec_l3Words.mono _ _
   | exact LeO.none _
   | refine LeO.ite ?_ ?_
   | refine LeO.bind ?_ (fun _ => ?_)
  ·intro y0 y1 y2 y3
   unfold spec_InsRead.j1
   repeat' first
   | (with_reducible exact ih0 _ _ _ _ _)
   | (with_reducible exact ih1 _ _ _ _)
   | (with_reducible exact spec_InsOk.mono _ _ _ _)
   | (with_reducible exact spec_InsText.mono _ _ _ _)
   | (with_reducible exact spec_l3Number.mono _ _)
   | (with_reducible exact spec_l3Words.mono _ _)
   | (with_reducible exact LeO.refl _)
   | (with_reducible exact LeO.none _)
   | (with_reducible refine LeO.ite ?_ ?_)
   | (with_reducible refine LeO.bind ?_ (fun _ => ?_))
   | exact ih0 _ _ _ _ _
   | exact ih1 _ _ _ _
   | exact spec_InsOk.mono _ _ _ _
   | exact spec_InsText.mono _ _ _ _
   | exact spec_l3Number.mono _ _
   | exact spec_l3Words.mono _ _
   | exact LeO.none _
   | refine LeO.ite ?_ ?_
   | refine LeO.bind ?_ (fun _ => ?_)
theorem spec_InsRead.mono : ∀ a0 k,LeO (spec_InsRead.f k a0) (spec_InsRead.f (k + 1) a0):=by
 intro a0 k
 obtain ⟨ih0,ih1⟩:=spec_InsRead.mono_l k
 unfold spec_InsRead.f
 repeat' first
   | (with_reducible exact ih0 _ _ _ _ _)
   | (with_reducible exact ih1 _ _ _ _)
   | (with_reducible exact spec_InsOk.mono _ _ _ _)
   | (with_reducible exact spec_InsText.mono _ _ _ _)
   | (with_reducible exact spec_l3Number.mono _ _)
   | (with_reducible exact spec_l3Words.mono _ _)
   | (with_reducible exact LeO.refl _)
   | (with_reducible exact LeO.none _)
   | (with_reducible refine LeO.ite ?_ ?_)
   | (with_reducible refine LeO.bind ?_ (fun _ => ?_))
   | exact ih0 _ _ _ _ _
   | exact ih1 _ _ _ _
   | exact spec_InsOk.mono _ _ _ _
   | exact spec_InsText.mono _ _ _ _
   | exact spec_l3Number.mono _ _
   | exact spec_l3Words.mono _ _
   | exact LeO.none _
   | refine LeO.ite ?_ ?_
   | refine LeO.bind ?_ (fun _ => ?_)
set_option maxHeartbeats 8000000 in
set_option maxRecDepth 100000 in
theorem spec_InsRead.calls (k : Nat) (a0 : ByteArray) (r1 : ByteArray) (r2 : Int) (r3 : Int) (r4 : Bool) (w : World) (h : spec_InsRead.f k a0 = some (r1,r2,r3,r4)) :
  Calls Tryd.prog 25 #[.string a0] w fun e w' => e = .returned (.tuple #[.agg #[.string r1,.int .i64 r2,.int .i64 r3],.bool r4]) ∧ Below w.heap.size w w':=by
 have hu26:=Tryd.underlying26
 have HB:=Aside0.mk (Below.refl w.heap.size w)
 have H : (if (a0.size : Int) > 40 then (some ((⟨#[]⟩ : ByteArray),0,0,false)) else ((spec_l3Words.f k a0).bind fun t215 => (if 0 < (t215.length : Int) then (if (t215.length : Int) > 1 then (if 1 < (t215.length : Int) then ((spec_l3Number.f k (rdOf ByteArray.empty t215 1)).bind fun t221 => (spec_InsRead.j0 k a0 t215 (rdOf ByteArray.empty t215 0) t221 0)) else (none)) else (spec_InsRead.j0 k a0 t215 (rdOf ByteArray.empty t215 0) 0 0)) else (none)))) = some (r1,r2,r3,r4):=h
 clear h
 by_cases c2 : (a0.size : Int) > 40
 ·rw [if_pos c2] at H
  have c2b0 : decide (40 < (a0.size : Int)) = true:=decide_eq_true c2
  have c2b1 : decide (40 < a0.size) = true:=decide_eq_true (by omega)
  clear c2
  simp only [Option.some.injEq,Prod.mk.injEq] at H
  obtain ⟨rfl,rfl,rfl,rfl⟩:=H
  go_enter Tryd.func25,Tryd.ntmps25
  go_wp2_with (first | ((with_reducible refine gate_dst (N:=2) rfl ?_);refine Up.bx 2 26 #[.string (⟨#[]⟩ : ByteArray),.int .i64 0,.int .i64 0] ?_;intro gb214 hg w3 hbox hb;have n0_:=Up.BB HB hb;have n1_:=Aside0.mk (hbox);have n2_:=Up.gw hg HB;have n3_:=Up.gw hg HB;clear HB;have HB:=n0_;have BK214:=n1_;have GW214:=n2_;have GE214:=n3_;clear n0_ n1_ n2_ n3_ hb hbox hg;have hcz4_0:=Up.c0 BK214;have hcz4_1:=Up.c1 BK214;have hcz4_2:=Up.c2 BK214;have hfz4_0:=blk_frozen BK214.out 0;have hfz4_1:=blk_frozen BK214.out 1;have hfz4_2:=blk_frozen BK214.out 2))
  refine bodyPost_ret (results_ct rfl _ _ gb214 26 #[.string (⟨#[]⟩ : ByteArray),.int .i64 0,.int .i64 0] (0,0) _ rfl (Up.Kx BK214) Tryd.underlying26 rfl (by kernel_rfl)) rfl ?_
  exact Up.e1 (Up.Bx HB)
 ·rw [if_neg c2] at H
  have c2b0 : decide (40 < (a0.size : Int)) = false:=decide_eq_false c2
  have c2b1 : decide (40 < a0.size) = false:=decide_eq_false (by omega)
  clear c2
  replace H:=Option.bind_eq_some_iff.mp H
  obtain ⟨t215,A50,H⟩:=H
  replace H : (if 0 < (t215.length : Int) then (if (t215.length : Int) > 1 then (if 1 < (t215.length : Int) then ((spec_l3Number.f k (rdOf ByteArray.empty t215 1)).bind fun t221 => (spec_InsRead.j0 k a0 t215 (rdOf ByteArray.empty t215 0) t221 0)) else (none)) else (spec_InsRead.j0 k a0 t215 (rdOf ByteArray.empty t215 0) 0 0)) else (none)) = some (r1,r2,r3,r4):=H
  have A5:=Aside0.mk A50
  clear A50
  by_cases c6 : 0 < (t215.length : Int)
  ·rw [if_pos c6] at H
   have c6b0 : decide (0 < (t215.length : Int)) = true:=decide_eq_true c6
   have c6b1 : decide (0 < t215.length) = true:=decide_eq_true (by omega)
   clear c6
   have HC7:=Aside0.mk H
   clear H
   go_enter Tryd.func25,Tryd.ntmps25
   go_upto_if 18 with (first | ((with_reducible refine gate_dst (N:=2) rfl ?_);refine Up.bx 2 26 #[.string (⟨#[]⟩ : ByteArray),.int .i64 0,.int .i64 0] ?_;intro gb214 hg w8 hbox hb;have n0_:=Up.BB HB hb;have n1_:=Aside0.mk (hbox);have n2_:=Up.gw hg HB;have n3_:=Up.gw hg HB;clear HB;have HB:=n0_;have BK214:=n1_;have GW214:=n2_;have GE214:=n3_;clear n0_ n1_ n2_ n3_ hb hbox hg) | ((with_reducible refine gate_callee (f:=45) rfl ?_);refine Up.gl (some 11) Tryd.func45 #[.string a0] ?_;(with_reducible refine (spec_l3Words.calls k a0 t215 _ A5.out).mono ?_);rintro e w9 ⟨v216,rfl,ho0,hb⟩;refine ⟨_,rfl,?_⟩;have n0_:=Aside0.mk (Kd.R_lower ho0 (below_size (Up.Bx HB)));have n1_:=Up.KB BK214 hb;have n2_:=Aside0.mk (below_step (Up.Bx HB) hb);clear BK214 HB;have HO217:=n0_;have BK214:=n1_;have HB:=n2_;clear n0_ n1_ n2_;(try clear hb);(try clear hb2);(try clear hk);(try clear hi);(try clear ho0);obtain ⟨Ao10,co10,eo10⟩:=Kd.R_slice HO217.out;subst eo10;have p218 : 0 ≤ (0 : Int):=(by omega);have q218 : 0 < (t215.length : Int):=Up.od;obtain ⟨ad218,e218,hx218_0⟩:=Kd.at_string (Kd.R_reads' HO217.out).2.2 0 p218 q218;cases e218;have qi218 : (0 < t215.length) = True:=eq_true (by omega);(try rw [show ((0 : Int)).toNat = 0 from rfl] at hx218_0);(try rw [Addr.add_zero'] at hx218_0);replace p218:=eq_true p218;replace q218:=eq_true q218) | ((with_reducible refine gate_dst (N:=5) rfl ?_);refine Up.bx 5 26 #[.string (⟨#[]⟩ : ByteArray),.int .i64 0,.int .i64 0] ?_;intro gb219 hg w11 hbox hb;have n0_:=Up.RB HO217 hb;have n1_:=Up.KB BK214 hb;have n2_:=Aside0.mk (below_step (Up.Bx HB) hb);have n3_:=Aside0.mk (hbox);have n4_:=Up.gw hg HB;have n5_:=Up.gw hg HB;have n6_:=Up.nl hg BK214;have n7_:=Up.ng hg BK214;clear HO217 BK214 HB;have HO217:=n0_;have BK214:=n1_;have HB:=n2_;have BK219:=n3_;have GW219:=n4_;have GE219:=n5_;have NB214_219:=n6_;have NB219_214:=n7_;clear n0_ n1_ n2_ n3_ n4_ n5_ n6_ n7_ hb hbox hg;have hnb12:=NB219_214.out;have hnc12:=NB214_219.out;have hcz13_0:=Up.c0 BK219;have hcz13_1:=Up.c1 BK219;have hcz13_2:=Up.c2 BK219;have hfz13_0:=blk_frozen BK219.out 0;have hfz13_1:=blk_frozen BK219.out 1;have hfz13_2:=blk_frozen BK219.out 2))
   (try simp only [Act.put,List.setIfInBounds_toArray,List.set_cons_zero,List.set_cons_succ])
   go_cut [] (fun wc => ∃ (kq : Nat) (x220001_6 : Int),Aside0 (spec_InsRead.j0 kq a0 t215 (rdOf ByteArray.empty t215 0) x220001_6 0 = some (r1,r2,r3,r4)) ∧ Aside0 (kq ≤ k) ∧ Aside0 (Kd.R Kd.string 9 wc w.heap.size (fun _ => True) (.slice (some ad218) t215.length co10) t215) ∧ Aside0 (wc.heap[gb214]? = some (.cells #[.string (⟨#[]⟩ : ByteArray),.int .i64 0,.int .i64 0] 26 (0,0))) ∧ Aside0 (wc.heap[gb219]? = some (.cells #[.string (rdOf ByteArray.empty t215 0),.int .i64 x220001_6,.int .i64 0] 26 (0,0))) ∧ Aside0 (Below w.heap.size w wc))
   case first =>
    have H:=HC7.out
    clear HC7
    by_cases c14 : (t215.length : Int) > 1
    ·rw [if_pos c14] at H
     have c14b0 : decide (1 < (t215.length : Int)) = true:=decide_eq_true c14
     have c14b1 : decide (1 < t215.length) = true:=decide_eq_true (by omega)
     clear c14
     (first | rw [c14b0] | (simp only [i64_w,i32_w];rw [c14b0]) | skip)
     by_cases c15 : 1 < (t215.length : Int)
     ·rw [if_pos c15] at H
      have c15b0 : decide (1 < (t215.length : Int)) = true:=decide_eq_true c15
      have c15b1 : decide (1 < t215.length) = true:=decide_eq_true (by omega)
      clear c15
      replace H:=Option.bind_eq_some_iff.mp H
      obtain ⟨t221,A160,H⟩:=H
      replace H : (spec_InsRead.j0 k a0 t215 (rdOf ByteArray.empty t215 0) t221 0) = some (r1,r2,r3,r4):=H
      have A16:=Aside0.mk A160
      clear A160
      have H':=Aside0.mk H
      clear H
      have p220 : 0 ≤ (1 : Int):=(by omega)
      have q220 : 1 < (t215.length : Int):=Up.od
      obtain ⟨ad220,e220,hx220_0⟩:=Kd.at_string (Kd.R_reads' HO217.out).2.2 1 p220 q220
      obtain rfl : ad218 = ad220:=(by injection e220)
      (try simp only [show (1 : Int).toNat = 1 from rfl,Nat.reduceMul,Nat.reduceEqDiff,Go.Addr.add,↓reduceIte] at hx220_0)
      have qi220 : (1 < t215.length) = True:=eq_true (by omega)
      (try rw [show ((1 : Int)).toNat = 1 from rfl] at hx220_0)
      have hn220_0 : ad218.block ≠ gb219:=Kd.own_blk (Kd.R_ne HO217.out BK219.out (by decide))
      have hn220_1 : ad218.block ≠ gb219:=Kd.own_blk (Kd.R_ne HO217.out BK219.out (by decide))
      have hn220_2 : ad218.block ≠ gb219:=Kd.own_blk (Kd.R_ne HO217.out BK219.out (by decide))
      replace hx220_0:=(cell_far (p:=⟨gb219,0,none⟩) (by first | (rw [add_block];exact hn220_0) | (show (Addr.add _ _).block ≠ _;rw [add_block];exact hn220_0) | exact hn220_0) (.string (rdOf ByteArray.empty t215 0))).trans hx220_0
      replace hx220_0:=(cell_far (p:=⟨gb219,1,none⟩) (by first | (rw [add_block];exact hn220_1) | (show (Addr.add _ _).block ≠ _;rw [add_block];exact hn220_1) | exact hn220_1) (.int .i64 0)).trans hx220_0
      replace hx220_0:=(cell_far (p:=⟨gb219,2,none⟩) (by first | (rw [add_block];exact hn220_2) | (show (Addr.add _ _).block ≠ _;rw [add_block];exact hn220_2) | exact hn220_2) (.int .i64 0)).trans hx220_0
      clear hn220_0
      clear hn220_1
      clear hn220_2
      replace p220:=eq_true p220
      replace q220:=eq_true q220
      go_wp2_with (first | ((with_reducible refine gate_callee (f:=46) rfl ?_);refine Up.gl (some 22) Tryd.func46 #[.string (rdOf ByteArray.empty t215 1)] ?_;(with_reducible refine (spec_l3Number.calls k (rdOf ByteArray.empty t215 1) t221 _ A16.out).mono ?_);rintro e w' ⟨rfl,⟨nd,rfl⟩⟩;refine ⟨_,rfl,?_⟩;have hnb17:=NB219_214.out;have hnc17:=NB214_219.out;have hcz18_0:=Up.c0 BK219;have hcz18_1:=Up.c1 BK219;have hcz18_2:=Up.c2 BK219;have hfz18_0:=blk_frozen BK219.out 0;have hfz18_1:=blk_frozen BK219.out 1;have hfz18_2:=blk_frozen BK219.out 2))
      go_meet
      case rel => exact ⟨_,(t221),H',⟨by first | omega | exact Nat.le_refl _⟩,⟨by (with_reducible repeat (first | apply Kd.R_alloc | apply Kd.R_drewN | apply Kd.R_drew));exact Kd.R_mono (Kd.R_far (p:=⟨gb219,1,none⟩) (Kd.R_far (p:=⟨gb219,2,none⟩) (Kd.R_far (p:=⟨gb219,1,none⟩) (Kd.R_far (p:=⟨gb219,0,none⟩) (Kd.R_types HO217.out BK219.out (by decide)) (fun _ hk => hk.2) (.string (rdOf ByteArray.empty t215 0))) (fun _ hk => hk.2) (.int .i64 0)) (fun _ hk => hk.2) (.int .i64 0)) (fun _ hk => hk.2) (.int .i64 t221)) (fun _ hk => trivial)⟩,⟨by (with_reducible repeat (first | refine blk_drewN ?_ _ | refine blk_drew ?_ | refine blk_alloc ?_ _));refine blk_far ?_ NB214_219.out _;(with_reducible repeat (first | refine blk_drewN ?_ _ | refine blk_drew ?_ | refine blk_alloc ?_ _));refine blk_far ?_ NB214_219.out _;(with_reducible repeat (first | refine blk_drewN ?_ _ | refine blk_drew ?_ | refine blk_alloc ?_ _));refine blk_far ?_ NB214_219.out _;(with_reducible repeat (first | refine blk_drewN ?_ _ | refine blk_drew ?_ | refine blk_alloc ?_ _));refine blk_far ?_ NB214_219.out _;(with_reducible repeat (first | refine blk_drewN ?_ _ | refine blk_drew ?_ | refine blk_alloc ?_ _));exact BK214.out⟩,⟨by (with_reducible repeat (first | refine blk_drewN ?_ _ | refine blk_drew ?_ | refine blk_alloc ?_ _));refine blk_put (cs:=#[.string (rdOf ByteArray.empty t215 0),.int .i64 0,.int .i64 0]) ?_ 1 _ rfl;(with_reducible repeat (first | refine blk_drewN ?_ _ | refine blk_drew ?_ | refine blk_alloc ?_ _));refine blk_put (cs:=#[.string (rdOf ByteArray.empty t215 0),.int .i64 0,.int .i64 0]) ?_ 2 _ rfl;(with_reducible repeat (first | refine blk_drewN ?_ _ | refine blk_drew ?_ | refine blk_alloc ?_ _));refine blk_put (cs:=#[.string (rdOf ByteArray.empty t215 0),.int .i64 0,.int .i64 0]) ?_ 1 _ rfl;(with_reducible repeat (first | refine blk_drewN ?_ _ | refine blk_drew ?_ | refine blk_alloc ?_ _));refine blk_put (cs:=#[.string (⟨#[]⟩ : ByteArray),.int .i64 0,.int .i64 0]) ?_ 0 _ rfl;(with_reducible repeat (first | refine blk_drewN ?_ _ | refine blk_drew ?_ | refine blk_alloc ?_ _));exact BK219.out⟩,⟨Up.Bx HB⟩⟩
     ·rw [if_neg c15] at H
      exact absurd H (by simp)
    ·rw [if_neg c14] at H
     have c14b0 : decide (1 < (t215.length : Int)) = false:=decide_eq_false c14
     have c14b1 : decide (1 < t215.length) = false:=decide_eq_false (by omega)
     clear c14
     (first | rw [c14b0] | (simp only [i64_w,i32_w];rw [c14b0]) | skip)
     have H':=Aside0.mk H
     clear H
     go_wp2
     go_meet
     case rel => exact ⟨_,(0),H',⟨by first | omega | exact Nat.le_refl _⟩,⟨by (with_reducible repeat (first | apply Kd.R_alloc | apply Kd.R_drewN | apply Kd.R_drew));exact Kd.R_mono (Kd.R_far (p:=⟨gb219,2,none⟩) (Kd.R_far (p:=⟨gb219,1,none⟩) (Kd.R_far (p:=⟨gb219,0,none⟩) (Kd.R_types HO217.out BK219.out (by decide)) (fun _ hk => hk.2) (.string (rdOf ByteArray.empty t215 0))) (fun _ hk => hk.2) (.int .i64 0)) (fun _ hk => hk.2) (.int .i64 0)) (fun _ hk => trivial)⟩,⟨by (with_reducible repeat (first | refine blk_drewN ?_ _ | refine blk_drew ?_ | refine blk_alloc ?_ _));refine blk_far ?_ NB214_219.out _;(with_reducible repeat (first | refine blk_drewN ?_ _ | refine blk_drew ?_ | refine blk_alloc ?_ _));refine blk_far ?_ NB214_219.out _;(with_reducible repeat (first | refine blk_drewN ?_ _ | refine blk_drew ?_ | refine blk_alloc ?_ _));refine blk_far ?_ NB214_219.out _;(with_reducible repeat (first | refine blk_drewN ?_ _ | refine blk_drew ?_ | refine blk_alloc ?_ _));exact BK214.out⟩,⟨by (with_reducible repeat (first | refine blk_drewN ?_ _ | refine blk_drew ?_ | refine blk_alloc ?_ _));refine blk_put (cs:=#[.string (rdOf ByteArray.empty t215 0),.int .i64 0,.int .i64 0]) ?_ 2 _ rfl;(with_reducible repeat (first | refine blk_drewN ?_ _ | refine blk_drew ?_ | refine blk_alloc ?_ _));refine blk_put (cs:=#[.string (rdOf ByteArray.empty t215 0),.int .i64 0,.int .i64 0]) ?_ 1 _ rfl;(with_reducible repeat (first | refine blk_drewN ?_ _ | refine blk_drew ?_ | refine blk_alloc ?_ _));refine blk_put (cs:=#[.string (⟨#[]⟩ : ByteArray),.int .i64 0,.int .i64 0]) ?_ 0 _ rfl;(with_reducible repeat (first | refine blk_drewN ?_ _ | refine blk_drew ?_ | refine blk_alloc ?_ _));exact BK219.out⟩,⟨Up.Bx HB⟩⟩
   case rest =>
    clear HC7
    try clear c1
    try clear c2
    try clear c2b0
    try clear c2b1
    try clear p2
    try clear q2
    try clear hx2
    try clear qi2
    try clear c4
    try clear c6
    try clear c6b0
    try clear c6b1
    try clear c12
    try clear c14
    try clear c14b0
    try clear c14b1
    try clear c15
    try clear c15b0
    try clear c15b1
    try clear c17
    try clear hcz13_0
    try clear hcz13_1
    try clear hcz13_2
    try clear hcz18_0
    try clear hcz18_1
    try clear hcz18_2
    try clear hcz4_0
    try clear hcz4_1
    try clear hcz4_2
    try clear hfz13_0
    try clear hfz13_1
    try clear hfz13_2
    try clear hfz18_0
    try clear hfz18_1
    try clear hfz18_2
    try clear hfz4_0
    try clear hfz4_1
    try clear hfz4_2
    try clear hx218_0
    try clear hx220_0
    try clear p218
    try clear p220
    try clear q218
    try clear q220
    obtain ⟨kq,x220001_6,HA,HJ6,HO_4,BK214,BK219,HB⟩:=hcut
    cases kq with
    | zero => exact absurd HA.out (by simp [spec_InsRead.j0])
    | succ kj6 =>
     have H:=HA.out
     clear HA
     simp only [spec_InsRead.j0] at H
     have HC19:=Aside0.mk H
     clear H
     go_upto_if 26 with (fail)
     go_cut [] (fun wc => ∃ (kq : Nat) (x220002_18 : Int),Aside0 (spec_InsRead.j1 kq a0 (rdOf ByteArray.empty t215 0) x220001_6 x220002_18 = some (r1,r2,r3,r4)) ∧ Aside0 (kq ≤ kj6) ∧ Aside0 (wc.heap[gb214]? = some (.cells #[.string (⟨#[]⟩ : ByteArray),.int .i64 0,.int .i64 0] 26 (0,0))) ∧ Aside0 (wc.heap[gb219]? = some (.cells #[.string (rdOf ByteArray.empty t215 0),.int .i64 x220001_6,.int .i64 x220002_18] 26 (0,0))) ∧ Aside0 (Below w.heap.size w wc))
     case first =>
      have H:=HC19.out
      clear HC19
      by_cases c20 : (t215.length : Int) > 2
      ·rw [if_pos c20] at H
       have c20b0 : decide (2 < (t215.length : Int)) = true:=decide_eq_true c20
       have c20b1 : decide (2 < t215.length) = true:=decide_eq_true (by omega)
       clear c20
       (first | rw [c20b0] | (simp only [i64_w,i32_w];rw [c20b0]) | skip)
       by_cases c21 : 2 < (t215.length : Int)
       ·rw [if_pos c21] at H
        have c21b0 : decide (2 < (t215.length : Int)) = true:=decide_eq_true c21
        have c21b1 : decide (2 < t215.length) = true:=decide_eq_true (by omega)
        clear c21
        replace H:=Option.bind_eq_some_iff.mp H
        obtain ⟨t223,A220,H⟩:=H
        replace H : (spec_InsRead.j1 kj6 a0 (rdOf ByteArray.empty t215 0) x220001_6 t223) = some (r1,r2,r3,r4):=H
        have A22:=Aside0.mk A220
        clear A220
        have H':=Aside0.mk H
        clear H
        have p222 : 0 ≤ (2 : Int):=(by omega)
        have q222 : 2 < (t215.length : Int):=Up.od
        obtain ⟨ad222,e222,hx222_0⟩:=Kd.at_string (Kd.R_reads' HO_4.out).2.2 2 p222 q222
        obtain rfl : ad218 = ad222:=(by injection e222)
        (try simp only [show (2 : Int).toNat = 2 from rfl,Nat.reduceMul,Nat.reduceEqDiff,Go.Addr.add,↓reduceIte] at hx222_0)
        have qi222 : (2 < t215.length) = True:=eq_true (by omega)
        (try rw [show ((2 : Int)).toNat = 2 from rfl] at hx222_0)
        replace p222:=eq_true p222
        replace q222:=eq_true q222
        go_wp2_with (first | ((with_reducible refine gate_callee (f:=46) rfl ?_);refine Up.gl (some 30) Tryd.func46 #[.string (rdOf ByteArray.empty t215 2)] ?_;(with_reducible refine (spec_l3Number.calls kj6 (rdOf ByteArray.empty t215 2) t223 _ A22.out).mono ?_);rintro e w' ⟨rfl,⟨nd,rfl⟩⟩;refine ⟨_,rfl,?_⟩;(try (rw [drewN_self wc];generalize hq_ : World.drewN wc _ = wc;have n0_ : Aside0 (Kd.R Kd.string 9 wc w.heap.size (fun _ => True) (.slice (some ad218) t215.length co10) t215):=⟨by rw [← hq_];exact (Up.Rup HO_4)⟩;have n1_ : Aside0 (wc.heap[gb214]? = some (.cells #[.string (⟨#[]⟩ : ByteArray),.int .i64 0,.int .i64 0] 26 (0,0))):=⟨by rw [← hq_];exact (Up.Kup BK214)⟩;have n2_ : Aside0 (wc.heap[gb219]? = some (.cells #[.string (rdOf ByteArray.empty t215 0),.int .i64 x220001_6,.int .i64 0] 26 (0,0))):=⟨by rw [← hq_];exact (Up.Kup BK219)⟩;have n3_ : Aside0 (Below w.heap.size w wc):=⟨by rw [← hq_];exact (Up.Bx HB)⟩;clear HO_4 BK214 BK219 HB hq_;have HO_4:=n0_;have BK214:=n1_;have BK219:=n2_;have HB:=n3_;clear n0_ n1_ n2_ n3_));have hnb23:=NB219_214.out;have hnc23:=NB214_219.out;have hcz24_0:=Up.c0 BK219;have hcz24_1:=Up.c1 BK219;have hcz24_2:=Up.c2 BK219;have hfz24_0:=blk_frozen BK219.out 0;have hfz24_1:=blk_frozen BK219.out 1;have hfz24_2:=blk_frozen BK219.out 2))
        go_meet
        case rel => exact ⟨_,(t223),H',⟨by have:=HJ6.out;first | omega | exact Nat.le_refl _⟩,⟨by (with_reducible repeat (first | refine blk_drewN ?_ _ | refine blk_drew ?_ | refine blk_alloc ?_ _));refine blk_far ?_ NB214_219.out _;(with_reducible repeat (first | refine blk_drewN ?_ _ | refine blk_drew ?_ | refine blk_alloc ?_ _));exact BK214.out⟩,⟨by (with_reducible repeat (first | refine blk_drewN ?_ _ | refine blk_drew ?_ | refine blk_alloc ?_ _));refine blk_put (cs:=#[.string (rdOf ByteArray.empty t215 0),.int .i64 x220001_6,.int .i64 0]) ?_ 2 _ rfl;(with_reducible repeat (first | refine blk_drewN ?_ _ | refine blk_drew ?_ | refine blk_alloc ?_ _));exact BK219.out⟩,⟨Up.Bx HB⟩⟩
       ·rw [if_neg c21] at H
        exact absurd H (by simp)
      ·rw [if_neg c20] at H
       have c20b0 : decide (2 < (t215.length : Int)) = false:=decide_eq_false c20
       have c20b1 : decide (2 < t215.length) = false:=decide_eq_false (by omega)
       clear c20
       (first | rw [c20b0] | (simp only [i64_w,i32_w];rw [c20b0]) | skip)
       have H':=Aside0.mk H
       clear H
       go_wp2
       go_meet
       case rel => exact ⟨_,(0),H',⟨by have:=HJ6.out;first | omega | exact Nat.le_refl _⟩,⟨by (with_reducible repeat (first | refine blk_drewN ?_ _ | refine blk_drew ?_ | refine blk_alloc ?_ _));exact BK214.out⟩,⟨by (with_reducible repeat (first | refine blk_drewN ?_ _ | refine blk_drew ?_ | refine blk_alloc ?_ _));exact BK219.out⟩,⟨Up.Bx HB⟩⟩
     case rest =>
      clear HC19
      try clear c1
      try clear c2
      try clear c2b0
      try clear c2b1
      try clear p2
      try clear q2
      try clear hx2
      try clear qi2
      try clear c4
      try clear c6
      try clear c6b0
      try clear c6b1
      try clear c12
      try clear c14
      try clear c14b0
      try clear c14b1
      try clear c15
      try clear c15b0
      try clear c15b1
      try clear c17
      try clear c20
      try clear c20b0
      try clear c20b1
      try clear c21
      try clear c21b0
      try clear c21b1
      try clear p21
      try clear q21
      try clear hx21
      try clear qi21
      try clear p22
      try clear q22
      try clear hx22
      try clear qi22
      try clear c23
      try clear hcz13_0
      try clear hcz13_1
      try clear hcz13_2
      try clear hcz18_0
      try clear hcz18_1
      try clear hcz18_2
      try clear hcz24_0
      try clear hcz24_1
      try clear hcz24_2
      try clear hcz4_0
      try clear hcz4_1
      try clear hcz4_2
      try clear hfz13_0
      try clear hfz13_1
      try clear hfz13_2
      try clear hfz18_0
      try clear hfz18_1
      try clear hfz18_2
      try clear hfz24_0
      try clear hfz24_1
      try clear hfz24_2
      try clear hfz4_0
      try clear hfz4_1
      try clear hfz4_2
      try clear hx218_0
      try clear hx220_0
      try clear hx222_0
      try clear p2
      try clear p218
      try clear p220
      try clear p222
      try clear q2
      try clear q218
      try clear q220
      try clear q222
      obtain ⟨kq,x220002_18,HA,HJ18,BK214,BK219,HB⟩:=hcut
      cases kq with
      | zero => exact absurd HA.out (by simp [spec_InsRead.j1])
      | succ kj18 =>
       have H:=HA.out
       clear HA
       simp only [spec_InsRead.j1] at H
       replace H:=Option.bind_eq_some_iff.mp H
       obtain ⟨t224,A250,H⟩:=H
       replace H : (if t224 = true then ((spec_InsText.f kj18 (rdOf ByteArray.empty t215 0) x220001_6 x220002_18).bind fun t225 => (if t225.toList = a0.toList then (some ((rdOf ByteArray.empty t215 0),x220001_6,x220002_18,true)) else (some ((⟨#[]⟩ : ByteArray),0,0,false)))) else (some ((⟨#[]⟩ : ByteArray),0,0,false))) = some (r1,r2,r3,r4):=H
       have A25:=Aside0.mk A250
       clear A250
       by_cases c26 : t224 = true
       ·subst c26
        have H1 : ((spec_InsText.f kj18 (rdOf ByteArray.empty t215 0) x220001_6 x220002_18).bind fun t225 => (if t225.toList = a0.toList then (some ((rdOf ByteArray.empty t215 0),x220001_6,x220002_18,true)) else (some ((⟨#[]⟩ : ByteArray),0,0,false)))) = some (r1,r2,r3,r4):=by rw [if_pos rfl] at H;exact H
        clear H
        have H:=H1
        clear H1
        replace H:=Option.bind_eq_some_iff.mp H
        obtain ⟨t225,A270,H⟩:=H
        replace H : (if t225.toList = a0.toList then (some ((rdOf ByteArray.empty t215 0),x220001_6,x220002_18,true)) else (some ((⟨#[]⟩ : ByteArray),0,0,false))) = some (r1,r2,r3,r4):=H
        have A27:=Aside0.mk A270
        clear A270
        by_cases c28 : t225.toList = a0.toList
        ·rw [if_pos c28] at H
         have c28b0 : (t225.toList == a0.toList) = true:=beq_iff_eq.mpr c28
         have c28b1 : (t225.toList != a0.toList) = false:=bne_eq_false_iff_eq.mpr c28
         clear c28
         simp only [Option.some.injEq,Prod.mk.injEq] at H
         obtain ⟨rfl,rfl,rfl,rfl⟩:=H
         have hnb29:=NB219_214.out
         have hnc29:=NB214_219.out
         have hcz30_0:=Up.c0 BK219
         have hcz30_1:=Up.c1 BK219
         have hcz30_2:=Up.c2 BK219
         have hfz30_0:=blk_frozen BK219.out 0
         have hfz30_1:=blk_frozen BK219.out 1
         have hfz30_2:=blk_frozen BK219.out 2
         go_wp2_with (first | ((with_reducible refine gate_callee (f:=12) rfl ?_);refine Up.gl (some 33) Tryd.func12 #[.agg #[.string (rdOf ByteArray.empty t215 0),.int .i64 x220001_6,.int .i64 x220002_18]] ?_;(with_reducible refine (spec_InsOk.calls kj18 (rdOf ByteArray.empty t215 0) x220001_6 x220002_18 true _ A25.out).mono ?_);rintro e w31 ⟨rfl,hb⟩;refine ⟨_,rfl,?_⟩;have n0_:=Up.KB BK214 hb;have n1_:=Up.KB BK219 hb;have n2_:=Aside0.mk (below_step (Up.Bx HB) hb);clear BK214 BK219 HB;have BK214:=n0_;have BK219:=n1_;have HB:=n2_;clear n0_ n1_ n2_;(try clear hb);(try clear hb2);(try clear hk);(try clear hi);have hcz32_0:=Up.c0 BK219;have hcz32_1:=Up.c1 BK219;have hcz32_2:=Up.c2 BK219;have hfz32_0:=blk_frozen BK219.out 0;have hfz32_1:=blk_frozen BK219.out 1;have hfz32_2:=blk_frozen BK219.out 2) | (go_at_call 22;(with_reducible refine (spec_InsText.calls kj18 (rdOf ByteArray.empty t215 0) x220001_6 x220002_18 t225 _ A27.out).mono ?_);rintro e w33 ⟨rfl,hb⟩;have n0_:=Up.KB BK214 hb;have n1_:=Up.KB BK219 hb;have n2_:=Aside0.mk (below_step (Up.Bx HB) hb);clear BK214 BK219 HB;have BK214:=n0_;have BK219:=n1_;have HB:=n2_;clear n0_ n1_ n2_;(try clear hb);(try clear hb2);(try clear hk);(try clear hi);have hcz34_0:=Up.c0 BK219;have hcz34_1:=Up.c1 BK219;have hcz34_2:=Up.c2 BK219;have hfz34_0:=blk_frozen BK219.out 0;have hfz34_1:=blk_frozen BK219.out 1;have hfz34_2:=blk_frozen BK219.out 2;have hcz35_0:=Up.c0 BK214;have hcz35_1:=Up.c1 BK214;have hcz35_2:=Up.c2 BK214;have hfz35_0:=blk_frozen BK214.out 0;have hfz35_1:=blk_frozen BK214.out 1;have hfz35_2:=blk_frozen BK214.out 2))
         refine bodyPost_ret (results_ct rfl _ _ gb214 26 #[.string (rdOf ByteArray.empty t215 0),.int .i64 x220001_6,.int .i64 x220002_18] (0,0) _ rfl (Up.Kx BK214) Tryd.underlying26 rfl (by kernel_rfl)) rfl ?_
         exact Up.e1 (Up.Bx HB)
        ·rw [if_neg c28] at H
         have c28b0 : (t225.toList == a0.toList) = false:=beq_eq_false_iff_ne.mpr c28
         have c28b1 : (t225.toList != a0.toList) = true:=bne_iff_ne.mpr c28
         simp only [Option.some.injEq,Prod.mk.injEq] at H
         obtain ⟨rfl,rfl,rfl,rfl⟩:=H
         have hnb36:=NB219_214.out
         have hnc36:=NB214_219.out
         have hcz37_0:=Up.c0 BK219
         have hcz37_1:=Up.c1 BK219
         have hcz37_2:=Up.c2 BK219
         have hfz37_0:=blk_frozen BK219.out 0
         have hfz37_1:=blk_frozen BK219.out 1
         have hfz37_2:=blk_frozen BK219.out 2
         go_wp2_with (first | ((with_reducible refine gate_callee (f:=12) rfl ?_);refine Up.gl (some 33) Tryd.func12 #[.agg #[.string (rdOf ByteArray.empty t215 0),.int .i64 x220001_6,.int .i64 x220002_18]] ?_;(with_reducible refine (spec_InsOk.calls kj18 (rdOf ByteArray.empty t215 0) x220001_6 x220002_18 true _ A25.out).mono ?_);rintro e w38 ⟨rfl,hb⟩;refine ⟨_,rfl,?_⟩;have n0_:=Up.KB BK214 hb;have n1_:=Up.KB BK219 hb;have n2_:=Aside0.mk (below_step (Up.Bx HB) hb);clear BK214 BK219 HB;have BK214:=n0_;have BK219:=n1_;have HB:=n2_;clear n0_ n1_ n2_;(try clear hb);(try clear hb2);(try clear hk);(try clear hi);have hcz39_0:=Up.c0 BK219;have hcz39_1:=Up.c1 BK219;have hcz39_2:=Up.c2 BK219;have hfz39_0:=blk_frozen BK219.out 0;have hfz39_1:=blk_frozen BK219.out 1;have hfz39_2:=blk_frozen BK219.out 2) | (go_at_call 22;(with_reducible refine (spec_InsText.calls kj18 (rdOf ByteArray.empty t215 0) x220001_6 x220002_18 t225 _ A27.out).mono ?_);rintro e w40 ⟨rfl,hb⟩;have n0_:=Up.KB BK214 hb;have n1_:=Up.KB BK219 hb;have n2_:=Aside0.mk (below_step (Up.Bx HB) hb);clear BK214 BK219 HB;have BK214:=n0_;have BK219:=n1_;have HB:=n2_;clear n0_ n1_ n2_;(try clear hb);(try clear hb2);(try clear hk);(try clear hi);have hcz41_0:=Up.c0 BK214;have hcz41_1:=Up.c1 BK214;have hcz41_2:=Up.c2 BK214;have hfz41_0:=blk_frozen BK214.out 0;have hfz41_1:=blk_frozen BK214.out 1;have hfz41_2:=blk_frozen BK214.out 2))
         refine bodyPost_ret (results_ct rfl _ _ gb214 26 #[.string (⟨#[]⟩ : ByteArray),.int .i64 0,.int .i64 0] (0,0) _ rfl (Up.Kx BK214) Tryd.underlying26 rfl (by kernel_rfl)) rfl ?_
         exact Up.e1 (Up.Bx HB)
       ·replace c26:=Bool.eq_false_iff.mpr c26
        subst c26
        have H1 : (some ((⟨#[]⟩ : ByteArray),0,0,false)) = some (r1,r2,r3,r4):=by rw [if_neg (show ¬ (false = true) by decide)] at H;exact H
        clear H
        have H:=H1
        clear H1
        simp only [Option.some.injEq,Prod.mk.injEq] at H
        obtain ⟨rfl,rfl,rfl,rfl⟩:=H
        have hnb42:=NB219_214.out
        have hnc42:=NB214_219.out
        have hcz43_0:=Up.c0 BK219
        have hcz43_1:=Up.c1 BK219
        have hcz43_2:=Up.c2 BK219
        have hfz43_0:=blk_frozen BK219.out 0
        have hfz43_1:=blk_frozen BK219.out 1
        have hfz43_2:=blk_frozen BK219.out 2
        go_wp2_with (first | ((with_reducible refine gate_callee (f:=12) rfl ?_);refine Up.gl (some 33) Tryd.func12 #[.agg #[.string (rdOf ByteArray.empty t215 0),.int .i64 x220001_6,.int .i64 x220002_18]] ?_;(with_reducible refine (spec_InsOk.calls kj18 (rdOf ByteArray.empty t215 0) x220001_6 x220002_18 false _ A25.out).mono ?_);rintro e w44 ⟨rfl,hb⟩;refine ⟨_,rfl,?_⟩;have n0_:=Up.KB BK214 hb;have n1_:=Up.KB BK219 hb;have n2_:=Aside0.mk (below_step (Up.Bx HB) hb);clear BK214 BK219 HB;have BK214:=n0_;have BK219:=n1_;have HB:=n2_;clear n0_ n1_ n2_;(try clear hb);(try clear hb2);(try clear hk);(try clear hi);have hcz45_0:=Up.c0 BK214;have hcz45_1:=Up.c1 BK214;have hcz45_2:=Up.c2 BK214;have hfz45_0:=blk_frozen BK214.out 0;have hfz45_1:=blk_frozen BK214.out 1;have hfz45_2:=blk_frozen BK214.out 2))
        refine bodyPost_ret (results_ct rfl _ _ gb214 26 #[.string (⟨#[]⟩ : ByteArray),.int .i64 0,.int .i64 0] (0,0) _ rfl (Up.Kx BK214) Tryd.underlying26 rfl (by kernel_rfl)) rfl ?_
        exact Up.e1 (Up.Bx HB)
  ·rw [if_neg c6] at H
   exact absurd H (by simp)

/-! ### strings_Split: function 47 -/

def strings_Split.f (s sep : ByteArray) : Option (List ByteArray) := if s.size < 4000000000 ∧ 1 ≤ sep.size then some (Lib.splitB sep 0 (Lib.countB s sep) s) else none
theorem strings_Split.calls (a0 a1 : ByteArray) (r : List ByteArray) (w : World) (hT_ : Tab w) (h : strings_Split.f a0 a1 = some r) :
    Calls Tryd.prog 47 #[.string a0, .string a1] w fun e w' => ∃ v0_ : Value, e = .returned (v0_) ∧ Kd.V Kd.string 9 w' w.heap.size (fun k_ => (w.heap.size ≤ k_)) v0_ r ∧ Below w.heap.size w w' := by
  unfold strings_Split.f at h
  split at h
  · rename_i hc
    obtain rfl := Option.some.inj h
    obtain ⟨m, hm⟩ := hT_.f3
    refine (Tryd.strings_Split a0 a1 m w (by omega) hm hc.2).mono ?_
    rintro e w' ⟨rfl, rfl⟩
    have hl := Lib.splitB_all a1 hc.2 0 (Lib.countB a0 a1) a0 rfl
    have hb := Lib.countB_le a1 hc.2 a0.size a0 (Nat.le_refl _)
    rw [← hl]
    refine ⟨_, rfl, Kd.R_V (Kd.R_of_own (base := w.heap.size) ?_ (fun k_ hk_ => by have h_ : w.heap.size = k_ := Option.some.inj hk_; omega)), below_alloc (Below.refl _ _) _⟩
    refine ⟨by simp [encs_length], .inr ⟨w.heap.size, _, _, rfl, Nat.le_refl _, heap_alloc_new w _, Nat.le_refl _, ?_, ?_, ?_⟩⟩
    · have hm : (4000000001 : Nat) ≤ maxLen := by decide
      exact Nat.le_trans (by omega) hm
    · simp
    · rw [List.take_of_length_le (by simp)]
      simp [encs]
  · cases h

/-! ### impl_decimal: function 49 -/
mutual
def impl_decimal.j0 : Nat → ByteArray → Bool → Option (Int × Bool)
 | 0,_,_ => none
 | k + 1,x0,x22 => if x22 = true then (some (0,false)) else (impl_decimal.l0 k x0 0 (x0.size : Int) 0)
def impl_decimal.l0 : Nat → ByteArray → Int → Int → Int → Option (Int × Bool)
 | 0,_,_,_,_ => none
 | k + 1,x0,x4,x24,x25 => if x25 < x24 then (if 0 ≤ x25 then (if x25 < (x0.size : Int) then (if (bt x0 x25) < 48 then (some (0,false)) else (if (bt x0 x25) > 57 then (some (0,false)) else (impl_decimal.l0 k x0 (wrap64 ((wrap64 (10 * x4)) + (((bt x0 x25) - 48) % 256))) x24 (wrap64 (x25 + 1))))) else (none)) else (none)) else (some (x4,true))
end
def impl_decimal.f (k : Nat) (a0 : ByteArray) : Option (Int × Bool):=if a0.toList = ([] : List UInt8) then (impl_decimal.j0 k a0 true) else (if (a0.size : Int) > 9 then (impl_decimal.j0 k a0 true) else (if (a0.size : Int) > 1 then (if 0 < (a0.size : Int) then (impl_decimal.j0 k a0 ((bt a0 0) == 48)) else (none)) else (impl_decimal.j0 k a0 false)))
theorem impl_decimal.mono_l : ∀ k,(∀ y0 y1,LeO (impl_decimal.j0 k y0 y1) (impl_decimal.j0 (k + 1) y0 y1)) ∧ (∀ y0 y1 y2 y3,LeO (impl_decimal.l0 k y0 y1 y2 y3) (impl_decimal.l0 (k + 1) y0 y1 y2 y3))
 | 0 => ⟨fun _ _ r h => by simp [impl_decimal.j0] at h,fun _ _ _ _ r h => by simp [impl_decimal.l0] at h⟩
 | k + 1 => by
  obtain ⟨ih0,ih1⟩:=impl_decimal.mono_l k
  refine ⟨?_,?_⟩
  ·intro y0 y1
   unfold impl_decimal.j0
   repeat' first
   | (with_reducible exact ih0 _ _)
   | (with_reducible exact ih1 _ _ _ _)
   | (with_reducible exact LeO.refl _)
   | (with_reducible exact LeO.none _)
   | (with_reducible refine LeO.ite ?_ ?_)
   | (with_reducible refine LeO.bind ?_ (fun _ => ?_))
   | exact ih0 _ _
   | exact ih1 _ _ _ _
   | exact LeO.none _
   | refine LeO.ite ?_ ?_
   | refine LeO.bind ?_ (fun _ => ?_)
  ·intro y0 y1 y2 y3
   unfold impl_decimal.l0
   repeat' first
   | (with_reducible exact ih0 _ _)
   | (with_reducible exact ih1 _ _ _ _)
   | (with_reducible exact LeO.refl _)
   | (with_reducible exact LeO.none _)
   | (with_reducible refine LeO.ite ?_ ?_)
   | (with_reducible refine LeO.bind ?_ (fun _ => ?_))
   | exact ih0 _ _
   | exact ih1 _ _ _ _
   | exact LeO.none _
   | refine LeO.ite ?_ ?_
   | refine LeO.bind ?_ (fun _ => ?_)
theorem impl_decimal.mono : ∀ a0 k,LeO (impl_decimal.f k a0) (impl_decimal.f (k + 1) a0):=by
 intro a0 k
 obtain ⟨ih0,ih1⟩:=impl_decimal.mono_l k
 unfold impl_decimal.f
 repeat' first
   | (with_reducible exact ih0 _ _)
   | (with_reducible exact ih1 _ _ _ _)
   | (with_reducible exact LeO.refl _)
   | (with_reducible exact LeO.none _)
   | (with_reducible refine LeO.ite ?_ ?_)
   | (with_reducible refine LeO.bind ?_ (fun _ => ?_))
   | exact ih0 _ _
   | exact ih1 _ _ _ _
   | exact LeO.none _
   | refine LeO.ite ?_ ?_
   | refine LeO.bind ?_ (fun _ => ?_)
set_option maxHeartbeats 8000000 in
set_option maxRecDepth 100000 in
theorem impl_decimal.calls (k : Nat) (a0 : ByteArray) (r1 : Int) (r2 : Bool) (w : World) (h : impl_decimal.f k a0 = some (r1,r2)) :
  Calls Tryd.prog 49 #[.string a0] w fun e w' => e = .returned (.tuple #[.int .i64 r1,.bool r2]) ∧ Drawn0 w w':=by
 have H : (if a0.toList = ([] : List UInt8) then (impl_decimal.j0 k a0 true) else (if (a0.size : Int) > 9 then (impl_decimal.j0 k a0 true) else (if (a0.size : Int) > 1 then (if 0 < (a0.size : Int) then (impl_decimal.j0 k a0 ((bt a0 0) == 48)) else (none)) else (impl_decimal.j0 k a0 false)))) = some (r1,r2):=h
 clear h
 have HC2:=Aside0.mk H
 clear H
 go_enter Tryd.func49,Tryd.ntmps49
 go_upto_region 1 with (fail)
 go_cut [22] (fun v22 wc => ∃ (kq : Nat) (x22_1 : Bool),v22 = .bool x22_1 ∧ Aside0 (impl_decimal.j0 kq a0 x22_1 = some (r1,r2)) ∧ Aside0 (kq ≤ k) ∧ Drawn0 w wc)
 case first =>
  have H:=HC2.out
  clear HC2
  by_cases c3 : a0.toList = ([] : List UInt8)
  ·rw [if_pos c3] at H
   have c3b0 : (a0.toList == ([] : List UInt8)) = true:=beq_iff_eq.mpr c3
   have c3b1 : (a0.toList != ([] : List UInt8)) = false:=bne_eq_false_iff_eq.mpr c3
   clear c3
   (first | rw [c3b0] | (simp only [i64_w,i32_w];rw [c3b0]) | skip)
   have H':=Aside0.mk H
   clear H
   go_wp2
   go_meet
   case rel => exact ⟨_,(true),(by first | rfl | (simp;done) | (simp [*];done)),H',⟨by first | omega | exact Nat.le_refl _⟩,by repeat (first | exact Drawn0.refl _ | apply Drawn0.step)⟩
  ·rw [if_neg c3] at H
   have c3b0 : (a0.toList == ([] : List UInt8)) = false:=beq_eq_false_iff_ne.mpr c3
   have c3b1 : (a0.toList != ([] : List UInt8)) = true:=bne_iff_ne.mpr c3
   (first | rw [c3b0] | (simp only [i64_w,i32_w];rw [c3b0]) | skip)
   by_cases c4 : (a0.size : Int) > 9
   ·rw [if_pos c4] at H
    have c4b0 : decide (9 < (a0.size : Int)) = true:=decide_eq_true c4
    have c4b1 : decide (9 < a0.size) = true:=decide_eq_true (by omega)
    clear c4
    have H':=Aside0.mk H
    clear H
    go_wp2
    go_meet
    case rel => exact ⟨_,(true),(by first | rfl | (simp;done) | (simp [*];done)),H',⟨by first | omega | exact Nat.le_refl _⟩,by repeat (first | exact Drawn0.refl _ | apply Drawn0.step)⟩
   ·rw [if_neg c4] at H
    have c4b0 : decide (9 < (a0.size : Int)) = false:=decide_eq_false c4
    have c4b1 : decide (9 < a0.size) = false:=decide_eq_false (by omega)
    clear c4
    by_cases c5 : (a0.size : Int) > 1
    ·rw [if_pos c5] at H
     have c5b0 : decide (1 < (a0.size : Int)) = true:=decide_eq_true c5
     have c5b1 : decide (1 < a0.size) = true:=decide_eq_true (by omega)
     clear c5
     by_cases c6 : 0 < (a0.size : Int)
     ·rw [if_pos c6] at H
      have c6b0 : decide (0 < (a0.size : Int)) = true:=decide_eq_true c6
      have c6b1 : decide (0 < a0.size) = true:=decide_eq_true (by omega)
      clear c6
      have H':=Aside0.mk H
      clear H
      have p7 : 0 ≤ (0 : Int):=(by omega)
      have q7 : 0 < a0.size:=(by have : (0 : Int) < (a0.size : Int):=Up.od;omega)
      have hx7 : ∀ h : 0 < a0.size,((a0[0]'h).toNat : Int) = bt a0 0:=bt_at a0 0
      clear p7
      have qi7 : (0 < (a0.size : Int)) = True:=eq_true (Up.od)
      replace q7:=eq_true q7
      go_wp2
      go_meet
      case rel => exact ⟨_,(((bt a0 0) == 48)),(by first | rfl | (simp;done) | (simp [*];done)),H',⟨by first | omega | exact Nat.le_refl _⟩,by repeat (first | exact Drawn0.refl _ | apply Drawn0.step)⟩
     ·rw [if_neg c6] at H
      exact absurd H (by simp)
    ·rw [if_neg c5] at H
     have c5b0 : decide (1 < (a0.size : Int)) = false:=decide_eq_false c5
     have c5b1 : decide (1 < a0.size) = false:=decide_eq_false (by omega)
     clear c5
     have H':=Aside0.mk H
     clear H
     go_wp2
     go_meet
     case rel => exact ⟨_,(false),(by first | rfl | (simp;done) | (simp [*];done)),H',⟨by first | omega | exact Nat.le_refl _⟩,by repeat (first | exact Drawn0.refl _ | apply Drawn0.step)⟩
 case rest =>
  clear HC2
  try clear p2
  try clear c3
  try clear c3b0
  try clear c3b1
  try clear c4
  try clear c4b0
  try clear c4b1
  try clear c5
  try clear c5b0
  try clear c5b1
  try clear c6
  try clear c6b0
  try clear c6b1
  try clear p7
  try clear q7
  try clear hx7
  try clear qi7
  try clear p7
  try clear q7
  obtain ⟨kq,x22_1,rfl,HA,HJ1,⟨mc1,rfl⟩⟩:=hcut
  cases kq with
  | zero => exact absurd HA.out (by simp [impl_decimal.j0])
  | succ kj1 =>
   have H:=HA.out
   clear HA
   simp only [impl_decimal.j0] at H
   by_cases c8 : x22_1 = true
   ·subst c8
    have H1 : (some (0,false)) = some (r1,r2):=by rw [if_pos rfl] at H;exact H
    clear H
    have H:=H1
    clear H1
    simp only [Option.some.injEq,Prod.mk.injEq] at H
    obtain ⟨rfl,rfl⟩:=H
    go_wp2
    go_ret2
    exact Up.e2
   ·replace c8:=Bool.eq_false_iff.mpr c8
    subst c8
    have H1 : (impl_decimal.l0 kj1 a0 0 (a0.size : Int) 0) = some (r1,r2):=by rw [if_neg (show ¬ (false = true) by decide)] at H;exact H
    clear H
    have H:=H1
    clear H1
    have H':=Aside0.mk H
    clear H
    go_wp2
    go_loopg [4,25] kj1 (fun kq v4 v25 w' => ∃ (x4_2 : Int) (x25_2 : Int),v4 = .int .i64 x4_2 ∧ v25 = .int .i64 x25_2 ∧ Aside0 (impl_decimal.l0 kq a0 x4_2 (a0.size : Int) x25_2 = some (r1,r2)) ∧ Aside0 (kq ≤ kj1) ∧ Drawn0 w w')
    case atStart => exact ⟨(0),(0),(by first | rfl | (simp;done) | (simp [*];done)),(by first | rfl | (simp;done) | (simp [*];done)),H',⟨Nat.le_refl _⟩,by repeat (first | exact Drawn0.refl _ | apply Drawn0.step)⟩
    case round =>
     clear H'
     try clear c1
     try clear p2
     try clear c3
     try clear c3b0
     try clear c3b1
     try clear c4
     try clear c4b0
     try clear c4b1
     try clear c5
     try clear c5b0
     try clear c5b1
     try clear c6
     try clear c6b0
     try clear c6b1
     try clear p7
     try clear q7
     try clear hx7
     try clear qi7
     try clear c8
     try clear p2
     try clear p7
     try clear q7
     obtain ⟨x4_2,x25_2,rfl,rfl,HA,HK2,⟨m2,rfl⟩⟩:=hrel
     cases gk with
     | zero => exact absurd HA.out (by simp [impl_decimal.l0])
     | succ k2 =>
      have H:=HA.out
      clear HA
      simp only [impl_decimal.l0] at H
      by_cases c9 : x25_2 < (a0.size : Int)
      ·rw [if_pos c9] at H
       have c9b0 : decide (x25_2 < (a0.size : Int)) = true:=decide_eq_true c9
       clear c9
       by_cases c10 : 0 ≤ x25_2
       ·rw [if_pos c10] at H
        have c10b0 : decide (0 ≤ x25_2) = true:=decide_eq_true c10
        clear c10
        by_cases c11 : x25_2 < (a0.size : Int)
        ·rw [if_pos c11] at H
         have c11b0 : decide (x25_2 < (a0.size : Int)) = true:=decide_eq_true c11
         clear c11
         by_cases c13 : (bt a0 x25_2) < 48
         ·rw [if_pos c13] at H
          have c13b0 : decide ((bt a0 x25_2) < 48) = true:=decide_eq_true c13
          clear c13
          simp only [Option.some.injEq,Prod.mk.injEq] at H
          obtain ⟨rfl,rfl⟩:=H
          have p12 : 0 ≤ (x25_2 : Int):=Up.od
          have q12 : x25_2 < (a0.size : Int):=Up.od
          have hx12:=bt_at a0 x25_2
          replace p12:=eq_true p12
          replace q12:=eq_true q12
          go_wp2
          go_ret2
          exact Up.e2
         ·rw [if_neg c13] at H
          have c13b0 : decide ((bt a0 x25_2) < 48) = false:=decide_eq_false c13
          clear c13
          by_cases c15 : (bt a0 x25_2) > 57
          ·rw [if_pos c15] at H
           have c15b0 : decide (57 < (bt a0 x25_2)) = true:=decide_eq_true c15
           clear c15
           simp only [Option.some.injEq,Prod.mk.injEq] at H
           obtain ⟨rfl,rfl⟩:=H
           have p12 : 0 ≤ (x25_2 : Int):=Up.od
           have q12 : x25_2 < (a0.size : Int):=Up.od
           have hx12:=bt_at a0 x25_2
           replace p12:=eq_true p12
           replace q12:=eq_true q12
           have p14 : 0 ≤ (x25_2 : Int):=Up.od
           have q14 : x25_2 < (a0.size : Int):=Up.od
           have hx14:=bt_at a0 x25_2
           replace p14:=eq_true p14
           replace q14:=eq_true q14
           go_wp2
           go_ret2
           exact Up.e2
          ·rw [if_neg c15] at H
           have c15b0 : decide (57 < (bt a0 x25_2)) = false:=decide_eq_false c15
           clear c15
           have H':=Aside0.mk H
           clear H
           have p12 : 0 ≤ (x25_2 : Int):=Up.od
           have q12 : x25_2 < (a0.size : Int):=Up.od
           have hx12:=bt_at a0 x25_2
           replace p12:=eq_true p12
           replace q12:=eq_true q12
           have p14 : 0 ≤ (x25_2 : Int):=Up.od
           have q14 : x25_2 < (a0.size : Int):=Up.od
           have hx14:=bt_at a0 x25_2
           replace p14:=eq_true p14
           replace q14:=eq_true q14
           have p16 : 0 ≤ (x25_2 : Int):=Up.od
           have q16 : x25_2 < (a0.size : Int):=Up.od
           have hx16:=bt_at a0 x25_2
           replace p16:=eq_true p16
           replace q16:=eq_true q16
           go_wp2
           go_roundg k2
           case measure => have:=HJ1.out;have:=HK2.out;omega
           case rel => exact ⟨(wrap64 ((wrap64 (10 * x4_2)) + (((bt a0 x25_2) - 48) % 256))),(wrap64 (x25_2 + 1)),(by first | rfl | (simp;done) | (simp [*];done)),(by first | rfl | (simp;done) | (simp [*];done)),H',⟨by have:=HJ1.out;have:=HK2.out;omega⟩,by repeat (first | exact Drawn0.refl _ | apply Drawn0.step)⟩
        ·rw [if_neg c11] at H
         exact absurd H (by simp)
       ·rw [if_neg c10] at H
        exact absurd H (by simp)
      ·rw [if_neg c9] at H
       have c9b0 : decide (x25_2 < (a0.size : Int)) = false:=decide_eq_false c9
       clear c9
       simp only [Option.some.injEq,Prod.mk.injEq] at H
       obtain ⟨rfl,rfl⟩:=H
       go_wp2
       go_ret2
       exact Up.e2

end Go.Proofs.YtfkhjnmgaadomaaDoor.OFnInsRead
