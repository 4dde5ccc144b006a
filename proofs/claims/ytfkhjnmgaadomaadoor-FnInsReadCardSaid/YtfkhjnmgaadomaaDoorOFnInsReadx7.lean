-- Laid by a program of this session (wip/myprint.py): the kit's print of the functions, contracts of our own among them.
import Derived.Test.YtfkhjnmgaadomaaDoorOFnInsReadx0
import Derived.Test.YtfkhjnmgaadomaaDoorOFnInsReadx1
import Derived.Test.YtfkhjnmgaadomaaDoorOFnInsReadx2
import Derived.Test.YtfkhjnmgaadomaaDoorOFnInsReadx3
import Derived.Test.YtfkhjnmgaadomaaDoorOFnInsReadx5
import Derived.Test.YtfkhjnmgaadomaaDoorOFnInsReadx6
namespace Go.Proofs.YtfkhjnmgaadomaaDoor.OFnInsRead
open Go.RowKit Go.Proofs.YtfkhjnmgaadomaaDoorW.PrintWords Go.Proofs.YtfkhjnmgaadomaaDoorW.PrintLast Go.Proofs.YtfkhjnmgaadomaaDoorW.PrintMore
attribute [local go_sem] max2_int min2_int max_two min_two max_three min_three max_four min_four   -- for this text's walks alone
set_option linter.unusedVariables false
set_option linter.unusedSimpArgs false

attribute [local go_sem high] eqA26
/-! ### spec_l91Ins: function 41 -/
def spec_l91Ins.f (k : Nat) (s0_0 : List Int) (s0_1 : Int) : Option (ByteArray × Int × Int × Int):=(spec_l3Table.f).bind fun t255 => ((spec_l6Rd_pick.f k s0_0 s0_1 (t255.length : Int)).bind fun bt258 => (if 0 ≤ bt258.1 then (if bt258.1 < (t255.length : Int) then (if ((rd_T26 t255 bt258.1).f1) > 0 then ((spec_l6Rd_pick.f k s0_0 bt258.2 (mn ((rd_T26 t255 bt258.1).f1) 12)).bind fun bt262 => (if ((rd_T26 t255 bt258.1).f2) > 0 then ((spec_l6Rd_pick.f k s0_0 bt262.2 ((rd_T26 t255 bt258.1).f2)).bind fun bt264 => (some ((rd_T26 t255 bt258.1).f0,bt262.1,bt264.1,bt264.2))) else (some ((rd_T26 t255 bt258.1).f0,bt262.1,(rd_T26 t255 bt258.1).f2,bt262.2)))) else (if ((rd_T26 t255 bt258.1).f2) > 0 then ((spec_l6Rd_pick.f k s0_0 bt258.2 ((rd_T26 t255 bt258.1).f2)).bind fun bt266 => (some ((rd_T26 t255 bt258.1).f0,(rd_T26 t255 bt258.1).f1,bt266.1,bt266.2))) else (some ((rd_T26 t255 bt258.1).f0,(rd_T26 t255 bt258.1).f1,(rd_T26 t255 bt258.1).f2,bt258.2)))) else (none)) else (none)))
theorem spec_l91Ins.mono : ∀ a0 a1 k,LeO (spec_l91Ins.f k a0 a1) (spec_l91Ins.f (k + 1) a0 a1):=by
 intro a0 a1 k
 unfold spec_l91Ins.f
 repeat' first
   | (with_reducible exact spec_l6Rd_pick.mono _ _ _ _)
   | (with_reducible exact LeO.refl _)
   | (with_reducible exact LeO.none _)
   | (with_reducible refine LeO.ite ?_ ?_)
   | (with_reducible refine LeO.bind ?_ (fun _ => ?_))
   | exact spec_l6Rd_pick.mono _ _ _ _
   | exact LeO.none _
   | refine LeO.ite ?_ ?_
   | refine LeO.bind ?_ (fun _ => ?_)
set_option maxHeartbeats 8000000 in
set_option maxRecDepth 100000 in
theorem spec_l91Ins.calls (k : Nat) (g : Nat) (s0_0 : List Int) (s0_1 : Int) (r1 : ByteArray) (r2 : Int) (r3 : Int) (r4 : Int) (w0 w : World) (hI : IsS70 w0 w g s0_0 s0_1) (hB : Below w0.heap.size w0 w) (h : spec_l91Ins.f k s0_0 s0_1 = some (r1,r2,r3,r4)) :
  Calls Tryd.prog 41 #[.pointer (some ⟨g,0,none⟩)] w fun e w' => e = .returned (.agg #[.string r1,.int .i64 r2,.int .i64 r3]) ∧ IsS70 w0 w' g s0_0 r4 ∧ Below w0.heap.size w0 w' ∧ KeepBut w w' g none:=by
 have hu26:=Tryd.underlying26
 have HI0:=Aside0.mk hI
 have HK:=Aside0.mk (KeepBut.refl w g none)
 have HL:=Aside0.mk hB.size
 clear hI
 have HW0:=Aside0.mk hB.size
 have HB:=Aside0.mk hB
 clear hB
 have H : ((spec_l3Table.f).bind fun t255 => ((spec_l6Rd_pick.f k s0_0 s0_1 (t255.length : Int)).bind fun bt258 => (if 0 ≤ bt258.1 then (if bt258.1 < (t255.length : Int) then (if ((rd_T26 t255 bt258.1).f1) > 0 then ((spec_l6Rd_pick.f k s0_0 bt258.2 (mn ((rd_T26 t255 bt258.1).f1) 12)).bind fun bt262 => (if ((rd_T26 t255 bt258.1).f2) > 0 then ((spec_l6Rd_pick.f k s0_0 bt262.2 ((rd_T26 t255 bt258.1).f2)).bind fun bt264 => (some ((rd_T26 t255 bt258.1).f0,bt262.1,bt264.1,bt264.2))) else (some ((rd_T26 t255 bt258.1).f0,bt262.1,(rd_T26 t255 bt258.1).f2,bt262.2)))) else (if ((rd_T26 t255 bt258.1).f2) > 0 then ((spec_l6Rd_pick.f k s0_0 bt258.2 ((rd_T26 t255 bt258.1).f2)).bind fun bt266 => (some ((rd_T26 t255 bt258.1).f0,(rd_T26 t255 bt258.1).f1,bt266.1,bt266.2))) else (some ((rd_T26 t255 bt258.1).f0,(rd_T26 t255 bt258.1).f1,(rd_T26 t255 bt258.1).f2,bt258.2)))) else (none)) else (none)))) = some (r1,r2,r3,r4):=h
 clear h
 replace H:=Option.bind_eq_some_iff.mp H
 obtain ⟨t255,A20,H⟩:=H
 replace H : ((spec_l6Rd_pick.f k s0_0 s0_1 (t255.length : Int)).bind fun bt258 => (if 0 ≤ bt258.1 then (if bt258.1 < (t255.length : Int) then (if ((rd_T26 t255 bt258.1).f1) > 0 then ((spec_l6Rd_pick.f k s0_0 bt258.2 (mn ((rd_T26 t255 bt258.1).f1) 12)).bind fun bt262 => (if ((rd_T26 t255 bt258.1).f2) > 0 then ((spec_l6Rd_pick.f k s0_0 bt262.2 ((rd_T26 t255 bt258.1).f2)).bind fun bt264 => (some ((rd_T26 t255 bt258.1).f0,bt262.1,bt264.1,bt264.2))) else (some ((rd_T26 t255 bt258.1).f0,bt262.1,(rd_T26 t255 bt258.1).f2,bt262.2)))) else (if ((rd_T26 t255 bt258.1).f2) > 0 then ((spec_l6Rd_pick.f k s0_0 bt258.2 ((rd_T26 t255 bt258.1).f2)).bind fun bt266 => (some ((rd_T26 t255 bt258.1).f0,(rd_T26 t255 bt258.1).f1,bt266.1,bt266.2))) else (some ((rd_T26 t255 bt258.1).f0,(rd_T26 t255 bt258.1).f1,(rd_T26 t255 bt258.1).f2,bt258.2)))) else (none)) else (none))) = some (r1,r2,r3,r4):=H
 have A2:=Aside0.mk A20
 clear A20
 replace H:=Option.bind_eq_some_iff.mp H
 obtain ⟨⟨t258,t259⟩,A30,H⟩:=H
 replace H : (if 0 ≤ t258 then (if t258 < (t255.length : Int) then (if ((rd_T26 t255 t258).f1) > 0 then ((spec_l6Rd_pick.f k s0_0 t259 (mn ((rd_T26 t255 t258).f1) 12)).bind fun bt262 => (if ((rd_T26 t255 t258).f2) > 0 then ((spec_l6Rd_pick.f k s0_0 bt262.2 ((rd_T26 t255 t258).f2)).bind fun bt264 => (some ((rd_T26 t255 t258).f0,bt262.1,bt264.1,bt264.2))) else (some ((rd_T26 t255 t258).f0,bt262.1,(rd_T26 t255 t258).f2,bt262.2)))) else (if ((rd_T26 t255 t258).f2) > 0 then ((spec_l6Rd_pick.f k s0_0 t259 ((rd_T26 t255 t258).f2)).bind fun bt266 => (some ((rd_T26 t255 t258).f0,(rd_T26 t255 t258).f1,bt266.1,bt266.2))) else (some ((rd_T26 t255 t258).f0,(rd_T26 t255 t258).f1,(rd_T26 t255 t258).f2,t259)))) else (none)) else (none)) = some (r1,r2,r3,r4):=H
 have A3:=Aside0.mk A30
 clear A30
 by_cases c4 : 0 ≤ t258
 ·rw [if_pos c4] at H
  have c4b0 : decide (0 ≤ t258) = true:=decide_eq_true c4
  clear c4
  by_cases c5 : t258 < (t255.length : Int)
  ·rw [if_pos c5] at H
   have c5b0 : decide (t258 < (t255.length : Int)) = true:=decide_eq_true c5
   clear c5
   by_cases c6 : ((rd_T26 t255 t258).f1) > 0
   ·rw [if_pos c6] at H
    have c6b0 : decide (0 < ((rd_T26 t255 t258).f1)) = true:=decide_eq_true c6
    clear c6
    obtain ⟨ji7,hji7⟩ : ∃ j_ : Int,(mn ((rd_T26 t255 t258).f1) 12) = j_:=⟨_,rfl⟩
    replace H : ((spec_l6Rd_pick.f k s0_0 t259 (ji7)).bind fun bt262 => (if ((rd_T26 t255 t258).f2) > 0 then ((spec_l6Rd_pick.f k s0_0 bt262.2 ((rd_T26 t255 t258).f2)).bind fun bt264 => (some ((rd_T26 t255 t258).f0,bt262.1,bt264.1,bt264.2))) else (some ((rd_T26 t255 t258).f0,bt262.1,(rd_T26 t255 t258).f2,bt262.2)))) = some (r1,r2,r3,r4):=by first | (rw [hji7] at H;exact H) | (simp only [hji7] at H ⊢;exact H)
    (try rw [hji7] at A2)
    (try rw [hji7] at A3)
    (try (have hji7h : ji7 ≤ 12:=by (rw [← hji7];unfold mn;(repeat' split) <;> omega)))
    (try (have hji7g : ji7 ≤ 64:=by omega))
    have hji7_ : (if 12 < ((rd_T26 t255 t258).f1) then 12 else ((rd_T26 t255 t258).f1)) = ji7:=hji7
    replace H:=Option.bind_eq_some_iff.mp H
    obtain ⟨⟨t262,t263⟩,A80,H⟩:=H
    replace H : (if ((rd_T26 t255 t258).f2) > 0 then ((spec_l6Rd_pick.f k s0_0 t263 ((rd_T26 t255 t258).f2)).bind fun bt264 => (some ((rd_T26 t255 t258).f0,t262,bt264.1,bt264.2))) else (some ((rd_T26 t255 t258).f0,t262,(rd_T26 t255 t258).f2,t263))) = some (r1,r2,r3,r4):=H
    have A8:=Aside0.mk A80
    clear A80
    by_cases c9 : ((rd_T26 t255 t258).f2) > 0
    ·rw [if_pos c9] at H
     have c9b0 : decide (0 < ((rd_T26 t255 t258).f2)) = true:=decide_eq_true c9
     clear c9
     replace H:=Option.bind_eq_some_iff.mp H
     obtain ⟨⟨t264,t265⟩,A100,H⟩:=H
     replace H : (some ((rd_T26 t255 t258).f0,t262,t264,t265)) = some (r1,r2,r3,r4):=H
     have A10:=Aside0.mk A100
     clear A100
     simp only [Option.some.injEq,Prod.mk.injEq] at H
     obtain ⟨rfl,rfl,rfl,rfl⟩:=H
     go_enter Tryd.func41,Tryd.ntmps41
     go_wp2_with (first | ((with_reducible refine gate_dst (N:=2) rfl ?_);refine Up.bx 2 26 #[.string (⟨#[]⟩ : ByteArray),.int .i64 0,.int .i64 0] ?_;intro gb254 hg w11 hbox hb;have n0_:=Aside0.mk (IsS70.below (Ip0 HI0) hb);have n1_:=Aside0.mk (KeepBut.trans (Up.Kp0 HK) (KeepBut.of_below hb g none) (.inl rfl));have n2_:=Aside0.mk (below_step (Up.Bs HB (IsS70.ge HI0.out)) hb);have n3_:=Aside0.mk (hbox);have n4_:=Aside0.mk ((by rw [hg];exact (keep_size (w:=w) (g:=g) (row:=none) (Up.Kp0 HK)) : w.heap.size ≤ gb254));have n5_:=Aside0.mk ((Nat.le_trans HW0.out (by rw [hg];exact (keep_size (w:=w) (g:=g) (row:=none) (Up.Kp0 HK)) : w.heap.size ≤ gb254) : w0.heap.size ≤ gb254));have n6_:=Aside0.mk ((by rw [hg];exact Nat.ne_of_lt (IsS70.lt (show IsS70 w0 _ g s0_0 s0_1 from by repeat (first | (with_reducible first | exact HI0.out | apply IsS70.alloc | apply IsS70.drewN | apply IsS70.drew | apply IsS70.set_1) | exact HI0.out))) : g ≠ gb254));have n7_:=Aside0.mk ((by rw [hg];exact Nat.ne_of_gt (IsS70.lt (show IsS70 w0 _ g s0_0 s0_1 from by repeat (first | (with_reducible first | exact HI0.out | apply IsS70.alloc | apply IsS70.drewN | apply IsS70.drew | apply IsS70.set_1) | exact HI0.out))) : gb254 ≠ g));clear HI0 HK HB;have HI0:=n0_;have HK:=n1_;have HB:=n2_;have BK254:=n3_;have GW254:=n4_;have GE254:=n5_;have NB0_254:=n6_;have NB254_0:=n7_;clear n0_ n1_ n2_ n3_ n4_ n5_ n6_ n7_ hb hbox hg) | ((with_reducible refine gate_callee (f:=36) rfl ?_);refine Up.gl (some 5) Tryd.func36 #[] ?_;(with_reducible refine (spec_l3Table.calls  t255 _ A2.out).mono ?_);rintro e w12 ⟨v256,rfl,ho0,hb⟩;refine ⟨_,rfl,?_⟩;have n0_:=Aside0.mk (Kd.R_lower (Kd.R_newB ho0 (g:=gb254) (o:=.cells #[.string (⟨#[]⟩ : ByteArray),.int .i64 0,.int .i64 0] 26 (0,0)) (Up.Kup BK254)) (keep_size (w:=w) (g:=g) (row:=none) (Up.Kp HK GW254)));have n1_:=Aside0.mk (IsS70.below (Ip1 HI0 NB0_254) hb);have n2_:=Up.KB BK254 hb;have n3_:=Aside0.mk (KeepBut.trans (Up.Kp HK GW254) (KeepBut.of_below hb g none) (.inl rfl));have n4_:=Aside0.mk (below_step (Up.Bt HB (IsS70.ge HI0.out) GE254) hb);clear HI0 BK254 HK HB;have HO257:=n0_;have HI0:=n1_;have BK254:=n2_;have HK:=n3_;have HB:=n4_;clear n0_ n1_ n2_ n3_ n4_;(try clear hb);(try clear hb2);(try clear hk);(try clear hi);(try clear ho0);obtain ⟨Ao13,co13,eo13⟩:=Kd.R_slice HO257.out;subst eo13) | ((with_reducible refine gate_callee (f:=42) rfl ?_);refine Up.gl (some 10) Tryd.func42 #[.pointer (some ⟨g,0,none⟩),.int .i64 (t255.length : Int)] ?_;(with_reducible refine (spec_l6Rd_pick.calls k g s0_0 s0_1 (t255.length : Int) t258 t259 w0 _ ?side1 ?side2 A3.out).mono ?_);(case side1 => repeat (first | (with_reducible first | exact HI0.out | apply IsS70.alloc | apply IsS70.drewN | apply IsS70.drew | apply IsS70.set_1 | refine IsS70.far ?_ NB0_254.out _) | exact HI0.out));(case side2 => repeat (first | (with_reducible first | exact HB.out | apply below_alloc | apply pw_below_drewN | apply below_drew1 | refine below_set ?_ (IsS70.ge HI0.out) | refine below_set ?_ GE254.out) | exact HB.out));rintro e w14 ⟨rfl,hi,hb,hk⟩;refine ⟨_,rfl,?_⟩;have n0_:=Aside0.mk (KeepBut.blk hk (g':=gb254) (o:=.cells #[.string (⟨#[]⟩ : ByteArray),.int .i64 0,.int .i64 0] 26 (0,0)) (Up.Kup BK254) NB254_0.out (by simp));have n1_:=Aside0.mk (Kd.R_mono (Kd.R_keep (IsS70.apart (show IsS70 w0 _ g s0_0 s0_1 from by repeat (first | (with_reducible first | exact HI0.out | apply IsS70.alloc | apply IsS70.drewN | apply IsS70.drew | apply IsS70.set_1 | refine IsS70.far ?_ NB0_254.out _) | exact HI0.out)) (Up.Rup HO257) (by decide)) hk (fun _ h => h.2)) (fun _ h => h.1));have n2_:=Aside0.mk (KeepBut.trans (Up.Kp HK GW254) hk (.inl rfl));have n3_:=Aside0.mk (hb);have n4_:=Aside0.mk (hi);clear BK254 HO257 HK HB HI0;have BK254:=n0_;have HO257:=n1_;have HK:=n2_;have HB:=n3_;have HI0:=n4_;clear n0_ n1_ n2_ n3_ n4_;(try clear hb);(try clear hb2);(try clear hk);(try clear hi);have p260 : 0 ≤ (t258 : Int):=Up.od;have q260 : t258 < (t255.length : Int):=Up.od;obtain ⟨ad260,e260,hx260_0,hx260_1,hx260_2⟩:=at_T26 (Kd.R_reads' HO257.out).2.2 t258 p260 q260;cases e260;replace p260:=eq_true p260;replace q260:=eq_true q260) | ((with_reducible refine gate_dst (N:=4) rfl ?_);refine Up.bx 4 26 #[.string (⟨#[]⟩ : ByteArray),.int .i64 0,.int .i64 0] ?_;intro gb261 hg w15 hbox hb;have n0_:=Aside0.mk (Kd.R_below (Kd.R_elderB (Up.Rup HO257) gb261 (Nat.le_of_eq hg.symm)) hb);have n1_:=Aside0.mk (IsS70.below (Ip1 HI0 NB0_254) hb);have n2_:=Up.KB BK254 hb;have n3_:=Aside0.mk (KeepBut.trans (Up.Kp HK GW254) (KeepBut.of_below hb g none) (.inl rfl));have n4_:=Aside0.mk (below_step (Up.Bt HB (IsS70.ge HI0.out) GE254) hb);have n5_:=Aside0.mk (hbox);have n6_:=Aside0.mk ((by rw [hg];exact (keep_size (w:=w) (g:=g) (row:=none) (Up.Kp HK GW254)) : w.heap.size ≤ gb261));have n7_:=Aside0.mk ((Nat.le_trans HW0.out (by rw [hg];exact (keep_size (w:=w) (g:=g) (row:=none) (Up.Kp HK GW254)) : w.heap.size ≤ gb261) : w0.heap.size ≤ gb261));have n8_:=Up.nl hg BK254;have n9_:=Up.ng hg BK254;have n10_:=Aside0.mk ((by rw [hg];exact Nat.ne_of_lt (IsS70.lt (show IsS70 w0 _ g s0_0 t259 from by repeat (first | (with_reducible first | exact HI0.out | apply IsS70.alloc | apply IsS70.drewN | apply IsS70.drew | apply IsS70.set_1 | refine IsS70.far ?_ NB0_254.out _) | exact HI0.out))) : g ≠ gb261));have n11_:=Aside0.mk ((by rw [hg];exact Nat.ne_of_gt (IsS70.lt (show IsS70 w0 _ g s0_0 t259 from by repeat (first | (with_reducible first | exact HI0.out | apply IsS70.alloc | apply IsS70.drewN | apply IsS70.drew | apply IsS70.set_1 | refine IsS70.far ?_ NB0_254.out _) | exact HI0.out))) : gb261 ≠ g));clear HO257 HI0 BK254 HK HB;have HO257:=n0_;have HI0:=n1_;have BK254:=n2_;have HK:=n3_;have HB:=n4_;have BK261:=n5_;have GW261:=n6_;have GE261:=n7_;have NB254_261:=n8_;have NB261_254:=n9_;have NB0_261:=n10_;have NB261_0:=n11_;clear n0_ n1_ n2_ n3_ n4_ n5_ n6_ n7_ n8_ n9_ n10_ n11_ hb hbox hg;have hnb16:=NB261_254.out;have hnc16:=NB254_261.out;have hnb17:=NB261_0.out;have hnc17:=NB0_261.out;have hcz18_0:=Up.c0 BK261;have hcz18_1:=Up.c1 BK261;have hcz18_2:=Up.c2 BK261;have hfz18_0:=blk_frozen BK261.out 0;have hfz18_1:=blk_frozen BK261.out 1;have hfz18_2:=blk_frozen BK261.out 2) | ((with_reducible refine gate_callee (f:=42) rfl ?_);refine goesL_ (some 20) rfl rfl Tryd.func42 (by kernel_rfl) rfl #[.pointer (some ⟨g,0,none⟩),.int .i64 ji7] rfl (by (try simp only [List.map_toArray,List.map_cons,List.map_nil]);first | done | (simp only [hji7];rfl) | rfl | (simp only [List.length_drop,List.length_take];rfl)) ?_;(with_reducible refine (spec_l6Rd_pick.calls k g s0_0 t259 ji7 t262 t263 w0 _ ?side1 ?side2 A8.out).mono ?_);(case side1 => repeat (first | (with_reducible first | exact HI0.out | apply IsS70.alloc | apply IsS70.drewN | apply IsS70.drew | apply IsS70.set_1 | refine IsS70.far ?_ NB0_254.out _ | refine IsS70.far ?_ NB0_261.out _) | exact HI0.out));(case side2 => repeat (first | (with_reducible first | exact HB.out | apply below_alloc | apply pw_below_drewN | apply below_drew1 | refine below_set ?_ (IsS70.ge HI0.out) | refine below_set ?_ GE254.out | refine below_set ?_ GE261.out) | exact HB.out));rintro e w19 ⟨rfl,hi,hb,hk⟩;refine ⟨_,rfl,?_⟩;have n0_:=Aside0.mk (KeepBut.blk hk (g':=gb254) (o:=.cells #[.string (⟨#[]⟩ : ByteArray),.int .i64 0,.int .i64 0] 26 (0,0)) (Up.Kx BK254) NB254_0.out (by simp));have n1_:=Aside0.mk (Kd.R_mono (Kd.R_keep (IsS70.apart (show IsS70 w0 _ g s0_0 t259 from by repeat (first | (with_reducible first | exact HI0.out | apply IsS70.alloc | apply IsS70.drewN | apply IsS70.drew | apply IsS70.set_1 | refine IsS70.far ?_ NB0_254.out _ | refine IsS70.far ?_ NB0_261.out _) | exact HI0.out)) (by (with_reducible repeat (first | apply Kd.R_alloc | apply Kd.R_drewN | apply Kd.R_drew));exact (Kd.R_mono (Kd.R_far (p:=⟨gb261,2,none⟩) (Kd.R_far (p:=⟨gb261,1,none⟩) (Kd.R_far (p:=⟨gb261,0,none⟩) (Kd.R_mono HO257.out (fun k_ hk => (⟨hk,hk.2⟩ : _ ∧ k_ ≠ gb261))) (fun _ hk => hk.2) (.string ((rd_T26 t255 t258).f0))) (fun _ hk => hk.2) (.int .i64 ((rd_T26 t255 t258).f1))) (fun _ hk => hk.2) (.int .i64 ((rd_T26 t255 t258).f2))) (fun _ h_ => h_.1))) (by decide)) hk (fun _ h => h.2)) (fun _ h => h.1));have n2_:=Aside0.mk (KeepBut.blk hk (g':=gb261) (o:=.cells #[.string ((rd_T26 t255 t258).f0),.int .i64 ((rd_T26 t255 t258).f1),.int .i64 ((rd_T26 t255 t258).f2)] 26 (0,0)) (Up.Kx BK261) NB261_0.out (by simp));have n3_:=Aside0.mk (KeepBut.trans (by repeat (first | (with_reducible first | exact HK.out | apply KeepBut.set_ | apply keep_drewN | apply keep_drew | apply keep_alloc | refine keep_far ?_ GW254.out _ | refine keep_far ?_ GW261.out _) | exact HK.out)) hk (.inl rfl));have n4_:=Aside0.mk (hb);have n5_:=Aside0.mk (hi);clear BK254 HO257 BK261 HK HB HI0;have BK254:=n0_;have HO257:=n1_;have BK261:=n2_;have HK:=n3_;have HB:=n4_;have HI0:=n5_;clear n0_ n1_ n2_ n3_ n4_ n5_;(try clear hb);(try clear hb2);(try clear hk);(try clear hi);have hcz20_0:=Up.c0 BK261;have hcz20_1:=Up.c1 BK261;have hcz20_2:=Up.c2 BK261;have hfz20_0:=blk_frozen BK261.out 0;have hfz20_1:=blk_frozen BK261.out 1;have hfz20_2:=blk_frozen BK261.out 2) | ((with_reducible refine gate_callee (f:=42) rfl ?_);refine Up.gl (some 28) Tryd.func42 #[.pointer (some ⟨g,0,none⟩),.int .i64 ((rd_T26 t255 t258).f2)] ?_;(with_reducible refine (spec_l6Rd_pick.calls k g s0_0 t263 ((rd_T26 t255 t258).f2) t264 t265 w0 _ ?side1 ?side2 A10.out).mono ?_);(case side1 => repeat (first | (with_reducible first | exact HI0.out | apply IsS70.alloc | apply IsS70.drewN | apply IsS70.drew | apply IsS70.set_1 | refine IsS70.far ?_ NB0_254.out _ | refine IsS70.far ?_ NB0_261.out _) | exact HI0.out));(case side2 => repeat (first | (with_reducible first | exact HB.out | apply below_alloc | apply pw_below_drewN | apply below_drew1 | refine below_set ?_ (IsS70.ge HI0.out) | refine below_set ?_ GE254.out | refine below_set ?_ GE261.out) | exact HB.out));rintro e w21 ⟨rfl,hi,hb,hk⟩;refine ⟨_,rfl,?_⟩;have n0_:=Aside0.mk (KeepBut.blk hk (g':=gb254) (o:=.cells #[.string (⟨#[]⟩ : ByteArray),.int .i64 0,.int .i64 0] 26 (0,0)) (Up.Kx BK254) NB254_0.out (by simp));have n1_:=Aside0.mk (Kd.R_mono (Kd.R_keep (IsS70.apart (show IsS70 w0 _ g s0_0 t263 from by repeat (first | (with_reducible first | exact HI0.out | apply IsS70.alloc | apply IsS70.drewN | apply IsS70.drew | apply IsS70.set_1 | refine IsS70.far ?_ NB0_254.out _ | refine IsS70.far ?_ NB0_261.out _) | exact HI0.out)) (by (with_reducible repeat (first | apply Kd.R_alloc | apply Kd.R_drewN | apply Kd.R_drew));exact (Kd.R_mono (Kd.R_far (p:=⟨gb261,1,none⟩) (Kd.R_mono HO257.out (fun k_ hk => (⟨hk,hk.2⟩ : _ ∧ k_ ≠ gb261))) (fun _ hk => hk.2) (.int .i64 t262)) (fun _ h_ => h_.1))) (by decide)) hk (fun _ h => h.2)) (fun _ h => h.1));have n2_:=Aside0.mk (KeepBut.blk hk (g':=gb261) (o:=.cells #[.string ((rd_T26 t255 t258).f0),.int .i64 t262,.int .i64 ((rd_T26 t255 t258).f2)] 26 (0,0)) (Up.Kx BK261) NB261_0.out (by simp));have n3_:=Aside0.mk (KeepBut.trans (by repeat (first | (with_reducible first | exact HK.out | apply KeepBut.set_ | apply keep_drewN | apply keep_drew | apply keep_alloc | refine keep_far ?_ GW254.out _ | refine keep_far ?_ GW261.out _) | exact HK.out)) hk (.inl rfl));have n4_:=Aside0.mk (hb);have n5_:=Aside0.mk (hi);clear BK254 HO257 BK261 HK HB HI0;have BK254:=n0_;have HO257:=n1_;have BK261:=n2_;have HK:=n3_;have HB:=n4_;have HI0:=n5_;clear n0_ n1_ n2_ n3_ n4_ n5_;(try clear hb);(try clear hb2);(try clear hk);(try clear hi);have hcz22_0:=Up.c0 BK261;have hcz22_1:=Up.c1 BK261;have hcz22_2:=Up.c2 BK261;have hfz22_0:=blk_frozen BK261.out 0;have hfz22_1:=blk_frozen BK261.out 1;have hfz22_2:=blk_frozen BK261.out 2;have hnb23:=NB254_0.out;have hnc23:=NB0_254.out;have hcz24_0:=Up.c0 BK254;have hcz24_1:=Up.c1 BK254;have hcz24_2:=Up.c2 BK254;have hfz24_0:=blk_frozen BK254.out 0;have hfz24_1:=blk_frozen BK254.out 1;have hfz24_2:=blk_frozen BK254.out 2))
     refine bodyPost_ret (results_cell_row rfl _ _ gb254 26 #[.string ((rd_T26 t255 t258).f0),.int .i64 t262,.int .i64 t264] (0,0) _ rfl (Up.Kx BK254) Tryd.underlying26 rfl (by kernel_rfl)) rfl ?_
     exact ⟨by first | rfl | (simp [errW_none,errW_some] <;> rfl) | (simp only [← hji7];first | rfl | (simp [errW_none,errW_some] <;> rfl)) | (simp [*,errW_none,errW_some] <;> rfl),by repeat (first | (with_reducible first | exact HI0.out | apply IsS70.alloc | apply IsS70.drewN | apply IsS70.drew | apply IsS70.set_1 | refine IsS70.far ?_ NB0_254.out _ | refine IsS70.far ?_ NB0_261.out _) | exact HI0.out),by repeat (first | (with_reducible first | exact HB.out | apply below_alloc | apply pw_below_drewN | apply below_drew1 | refine below_set ?_ (IsS70.ge HI0.out) | refine below_set ?_ GE254.out | refine below_set ?_ GE261.out) | exact HB.out),by repeat (first | (with_reducible first | exact HK.out | apply KeepBut.set_ | apply keep_drewN | apply keep_drew | apply keep_alloc | refine keep_far ?_ GW254.out _ | refine keep_far ?_ GW261.out _) | exact HK.out)⟩
    ·rw [if_neg c9] at H
     have c9b0 : decide (0 < ((rd_T26 t255 t258).f2)) = false:=decide_eq_false c9
     clear c9
     simp only [Option.some.injEq,Prod.mk.injEq] at H
     obtain ⟨rfl,rfl,rfl,rfl⟩:=H
     go_enter Tryd.func41,Tryd.ntmps41
     go_wp2_with (first | ((with_reducible refine gate_dst (N:=2) rfl ?_);refine Up.bx 2 26 #[.string (⟨#[]⟩ : ByteArray),.int .i64 0,.int .i64 0] ?_;intro gb254 hg w25 hbox hb;have n0_:=Aside0.mk (IsS70.below (Ip0 HI0) hb);have n1_:=Aside0.mk (KeepBut.trans (Up.Kp0 HK) (KeepBut.of_below hb g none) (.inl rfl));have n2_:=Aside0.mk (below_step (Up.Bs HB (IsS70.ge HI0.out)) hb);have n3_:=Aside0.mk (hbox);have n4_:=Aside0.mk ((by rw [hg];exact (keep_size (w:=w) (g:=g) (row:=none) (Up.Kp0 HK)) : w.heap.size ≤ gb254));have n5_:=Aside0.mk ((Nat.le_trans HW0.out (by rw [hg];exact (keep_size (w:=w) (g:=g) (row:=none) (Up.Kp0 HK)) : w.heap.size ≤ gb254) : w0.heap.size ≤ gb254));have n6_:=Aside0.mk ((by rw [hg];exact Nat.ne_of_lt (IsS70.lt (show IsS70 w0 _ g s0_0 s0_1 from by repeat (first | (with_reducible first | exact HI0.out | apply IsS70.alloc | apply IsS70.drewN | apply IsS70.drew | apply IsS70.set_1) | exact HI0.out))) : g ≠ gb254));have n7_:=Aside0.mk ((by rw [hg];exact Nat.ne_of_gt (IsS70.lt (show IsS70 w0 _ g s0_0 s0_1 from by repeat (first | (with_reducible first | exact HI0.out | apply IsS70.alloc | apply IsS70.drewN | apply IsS70.drew | apply IsS70.set_1) | exact HI0.out))) : gb254 ≠ g));clear HI0 HK HB;have HI0:=n0_;have HK:=n1_;have HB:=n2_;have BK254:=n3_;have GW254:=n4_;have GE254:=n5_;have NB0_254:=n6_;have NB254_0:=n7_;clear n0_ n1_ n2_ n3_ n4_ n5_ n6_ n7_ hb hbox hg) | ((with_reducible refine gate_callee (f:=36) rfl ?_);refine Up.gl (some 5) Tryd.func36 #[] ?_;(with_reducible refine (spec_l3Table.calls  t255 _ A2.out).mono ?_);rintro e w26 ⟨v256,rfl,ho0,hb⟩;refine ⟨_,rfl,?_⟩;have n0_:=Aside0.mk (Kd.R_lower (Kd.R_newB ho0 (g:=gb254) (o:=.cells #[.string (⟨#[]⟩ : ByteArray),.int .i64 0,.int .i64 0] 26 (0,0)) (Up.Kup BK254)) (keep_size (w:=w) (g:=g) (row:=none) (Up.Kp HK GW254)));have n1_:=Aside0.mk (IsS70.below (Ip1 HI0 NB0_254) hb);have n2_:=Up.KB BK254 hb;have n3_:=Aside0.mk (KeepBut.trans (Up.Kp HK GW254) (KeepBut.of_below hb g none) (.inl rfl));have n4_:=Aside0.mk (below_step (Up.Bt HB (IsS70.ge HI0.out) GE254) hb);clear HI0 BK254 HK HB;have HO257:=n0_;have HI0:=n1_;have BK254:=n2_;have HK:=n3_;have HB:=n4_;clear n0_ n1_ n2_ n3_ n4_;(try clear hb);(try clear hb2);(try clear hk);(try clear hi);(try clear ho0);obtain ⟨Ao27,co27,eo27⟩:=Kd.R_slice HO257.out;subst eo27) | ((with_reducible refine gate_callee (f:=42) rfl ?_);refine Up.gl (some 10) Tryd.func42 #[.pointer (some ⟨g,0,none⟩),.int .i64 (t255.length : Int)] ?_;(with_reducible refine (spec_l6Rd_pick.calls k g s0_0 s0_1 (t255.length : Int) t258 t259 w0 _ ?side1 ?side2 A3.out).mono ?_);(case side1 => repeat (first | (with_reducible first | exact HI0.out | apply IsS70.alloc | apply IsS70.drewN | apply IsS70.drew | apply IsS70.set_1 | refine IsS70.far ?_ NB0_254.out _) | exact HI0.out));(case side2 => repeat (first | (with_reducible first | exact HB.out | apply below_alloc | apply pw_below_drewN | apply below_drew1 | refine below_set ?_ (IsS70.ge HI0.out) | refine below_set ?_ GE254.out) | exact HB.out));rintro e w28 ⟨rfl,hi,hb,hk⟩;refine ⟨_,rfl,?_⟩;have n0_:=Aside0.mk (KeepBut.blk hk (g':=gb254) (o:=.cells #[.string (⟨#[]⟩ : ByteArray),.int .i64 0,.int .i64 0] 26 (0,0)) (Up.Kup BK254) NB254_0.out (by simp));have n1_:=Aside0.mk (Kd.R_mono (Kd.R_keep (IsS70.apart (show IsS70 w0 _ g s0_0 s0_1 from by repeat (first | (with_reducible first | exact HI0.out | apply IsS70.alloc | apply IsS70.drewN | apply IsS70.drew | apply IsS70.set_1 | refine IsS70.far ?_ NB0_254.out _) | exact HI0.out)) (Up.Rup HO257) (by decide)) hk (fun _ h => h.2)) (fun _ h => h.1));have n2_:=Aside0.mk (KeepBut.trans (Up.Kp HK GW254) hk (.inl rfl));have n3_:=Aside0.mk (hb);have n4_:=Aside0.mk (hi);clear BK254 HO257 HK HB HI0;have BK254:=n0_;have HO257:=n1_;have HK:=n2_;have HB:=n3_;have HI0:=n4_;clear n0_ n1_ n2_ n3_ n4_;(try clear hb);(try clear hb2);(try clear hk);(try clear hi);have p260 : 0 ≤ (t258 : Int):=Up.od;have q260 : t258 < (t255.length : Int):=Up.od;obtain ⟨ad260,e260,hx260_0,hx260_1,hx260_2⟩:=at_T26 (Kd.R_reads' HO257.out).2.2 t258 p260 q260;cases e260;replace p260:=eq_true p260;replace q260:=eq_true q260) | ((with_reducible refine gate_dst (N:=4) rfl ?_);refine Up.bx 4 26 #[.string (⟨#[]⟩ : ByteArray),.int .i64 0,.int .i64 0] ?_;intro gb261 hg w29 hbox hb;have n0_:=Aside0.mk (Kd.R_below (Kd.R_elderB (Up.Rup HO257) gb261 (Nat.le_of_eq hg.symm)) hb);have n1_:=Aside0.mk (IsS70.below (Ip1 HI0 NB0_254) hb);have n2_:=Up.KB BK254 hb;have n3_:=Aside0.mk (KeepBut.trans (Up.Kp HK GW254) (KeepBut.of_below hb g none) (.inl rfl));have n4_:=Aside0.mk (below_step (Up.Bt HB (IsS70.ge HI0.out) GE254) hb);have n5_:=Aside0.mk (hbox);have n6_:=Aside0.mk ((by rw [hg];exact (keep_size (w:=w) (g:=g) (row:=none) (Up.Kp HK GW254)) : w.heap.size ≤ gb261));have n7_:=Aside0.mk ((Nat.le_trans HW0.out (by rw [hg];exact (keep_size (w:=w) (g:=g) (row:=none) (Up.Kp HK GW254)) : w.heap.size ≤ gb261) : w0.heap.size ≤ gb261));have n8_:=Up.nl hg BK254;have n9_:=Up.ng hg BK254;have n10_:=Aside0.mk ((by rw [hg];exact Nat.ne_of_lt (IsS70.lt (show IsS70 w0 _ g s0_0 t259 from by repeat (first | (with_reducible first | exact HI0.out | apply IsS70.alloc | apply IsS70.drewN | apply IsS70.drew | apply IsS70.set_1 | refine IsS70.far ?_ NB0_254.out _) | exact HI0.out))) : g ≠ gb261));have n11_:=Aside0.mk ((by rw [hg];exact Nat.ne_of_gt (IsS70.lt (show IsS70 w0 _ g s0_0 t259 from by repeat (first | (with_reducible first | exact HI0.out | apply IsS70.alloc | apply IsS70.drewN | apply IsS70.drew | apply IsS70.set_1 | refine IsS70.far ?_ NB0_254.out _) | exact HI0.out))) : gb261 ≠ g));clear HO257 HI0 BK254 HK HB;have HO257:=n0_;have HI0:=n1_;have BK254:=n2_;have HK:=n3_;have HB:=n4_;have BK261:=n5_;have GW261:=n6_;have GE261:=n7_;have NB254_261:=n8_;have NB261_254:=n9_;have NB0_261:=n10_;have NB261_0:=n11_;clear n0_ n1_ n2_ n3_ n4_ n5_ n6_ n7_ n8_ n9_ n10_ n11_ hb hbox hg;have hnb30:=NB261_254.out;have hnc30:=NB254_261.out;have hnb31:=NB261_0.out;have hnc31:=NB0_261.out;have hcz32_0:=Up.c0 BK261;have hcz32_1:=Up.c1 BK261;have hcz32_2:=Up.c2 BK261;have hfz32_0:=blk_frozen BK261.out 0;have hfz32_1:=blk_frozen BK261.out 1;have hfz32_2:=blk_frozen BK261.out 2) | ((with_reducible refine gate_callee (f:=42) rfl ?_);refine goesL_ (some 20) rfl rfl Tryd.func42 (by kernel_rfl) rfl #[.pointer (some ⟨g,0,none⟩),.int .i64 ji7] rfl (by (try simp only [List.map_toArray,List.map_cons,List.map_nil]);first | done | (simp only [hji7];rfl) | rfl | (simp only [List.length_drop,List.length_take];rfl)) ?_;(with_reducible refine (spec_l6Rd_pick.calls k g s0_0 t259 ji7 t262 t263 w0 _ ?side1 ?side2 A8.out).mono ?_);(case side1 => repeat (first | (with_reducible first | exact HI0.out | apply IsS70.alloc | apply IsS70.drewN | apply IsS70.drew | apply IsS70.set_1 | refine IsS70.far ?_ NB0_254.out _ | refine IsS70.far ?_ NB0_261.out _) | exact HI0.out));(case side2 => repeat (first | (with_reducible first | exact HB.out | apply below_alloc | apply pw_below_drewN | apply below_drew1 | refine below_set ?_ (IsS70.ge HI0.out) | refine below_set ?_ GE254.out | refine below_set ?_ GE261.out) | exact HB.out));rintro e w33 ⟨rfl,hi,hb,hk⟩;refine ⟨_,rfl,?_⟩;have n0_:=Aside0.mk (KeepBut.blk hk (g':=gb254) (o:=.cells #[.string (⟨#[]⟩ : ByteArray),.int .i64 0,.int .i64 0] 26 (0,0)) (Up.Kx BK254) NB254_0.out (by simp));have n1_:=Aside0.mk (Kd.R_mono (Kd.R_keep (IsS70.apart (show IsS70 w0 _ g s0_0 t259 from by repeat (first | (with_reducible first | exact HI0.out | apply IsS70.alloc | apply IsS70.drewN | apply IsS70.drew | apply IsS70.set_1 | refine IsS70.far ?_ NB0_254.out _ | refine IsS70.far ?_ NB0_261.out _) | exact HI0.out)) (by (with_reducible repeat (first | apply Kd.R_alloc | apply Kd.R_drewN | apply Kd.R_drew));exact (Kd.R_mono (Kd.R_far (p:=⟨gb261,2,none⟩) (Kd.R_far (p:=⟨gb261,1,none⟩) (Kd.R_far (p:=⟨gb261,0,none⟩) (Kd.R_mono HO257.out (fun k_ hk => (⟨hk,hk.2⟩ : _ ∧ k_ ≠ gb261))) (fun _ hk => hk.2) (.string ((rd_T26 t255 t258).f0))) (fun _ hk => hk.2) (.int .i64 ((rd_T26 t255 t258).f1))) (fun _ hk => hk.2) (.int .i64 ((rd_T26 t255 t258).f2))) (fun _ h_ => h_.1))) (by decide)) hk (fun _ h => h.2)) (fun _ h => h.1));have n2_:=Aside0.mk (KeepBut.blk hk (g':=gb261) (o:=.cells #[.string ((rd_T26 t255 t258).f0),.int .i64 ((rd_T26 t255 t258).f1),.int .i64 ((rd_T26 t255 t258).f2)] 26 (0,0)) (Up.Kx BK261) NB261_0.out (by simp));have n3_:=Aside0.mk (KeepBut.trans (by repeat (first | (with_reducible first | exact HK.out | apply KeepBut.set_ | apply keep_drewN | apply keep_drew | apply keep_alloc | refine keep_far ?_ GW254.out _ | refine keep_far ?_ GW261.out _) | exact HK.out)) hk (.inl rfl));have n4_:=Aside0.mk (hb);have n5_:=Aside0.mk (hi);clear BK254 HO257 BK261 HK HB HI0;have BK254:=n0_;have HO257:=n1_;have BK261:=n2_;have HK:=n3_;have HB:=n4_;have HI0:=n5_;clear n0_ n1_ n2_ n3_ n4_ n5_;(try clear hb);(try clear hb2);(try clear hk);(try clear hi);have hcz34_0:=Up.c0 BK261;have hcz34_1:=Up.c1 BK261;have hcz34_2:=Up.c2 BK261;have hfz34_0:=blk_frozen BK261.out 0;have hfz34_1:=blk_frozen BK261.out 1;have hfz34_2:=blk_frozen BK261.out 2;have hnb35:=NB254_0.out;have hnc35:=NB0_254.out;have hcz36_0:=Up.c0 BK254;have hcz36_1:=Up.c1 BK254;have hcz36_2:=Up.c2 BK254;have hfz36_0:=blk_frozen BK254.out 0;have hfz36_1:=blk_frozen BK254.out 1;have hfz36_2:=blk_frozen BK254.out 2))
     refine bodyPost_ret (results_cell_row rfl _ _ gb254 26 #[.string ((rd_T26 t255 t258).f0),.int .i64 t262,.int .i64 ((rd_T26 t255 t258).f2)] (0,0) _ rfl (Up.Kx BK254) Tryd.underlying26 rfl (by kernel_rfl)) rfl ?_
     exact ⟨by first | rfl | (simp [errW_none,errW_some] <;> rfl) | (simp only [← hji7];first | rfl | (simp [errW_none,errW_some] <;> rfl)) | (simp [*,errW_none,errW_some] <;> rfl),by repeat (first | (with_reducible first | exact HI0.out | apply IsS70.alloc | apply IsS70.drewN | apply IsS70.drew | apply IsS70.set_1 | refine IsS70.far ?_ NB0_254.out _ | refine IsS70.far ?_ NB0_261.out _) | exact HI0.out),by repeat (first | (with_reducible first | exact HB.out | apply below_alloc | apply pw_below_drewN | apply below_drew1 | refine below_set ?_ (IsS70.ge HI0.out) | refine below_set ?_ GE254.out | refine below_set ?_ GE261.out) | exact HB.out),by repeat (first | (with_reducible first | exact HK.out | apply KeepBut.set_ | apply keep_drewN | apply keep_drew | apply keep_alloc | refine keep_far ?_ GW254.out _ | refine keep_far ?_ GW261.out _) | exact HK.out)⟩
   ·rw [if_neg c6] at H
    have c6b0 : decide (0 < ((rd_T26 t255 t258).f1)) = false:=decide_eq_false c6
    clear c6
    by_cases c37 : ((rd_T26 t255 t258).f2) > 0
    ·rw [if_pos c37] at H
     have c37b0 : decide (0 < ((rd_T26 t255 t258).f2)) = true:=decide_eq_true c37
     clear c37
     replace H:=Option.bind_eq_some_iff.mp H
     obtain ⟨⟨t266,t267⟩,A380,H⟩:=H
     replace H : (some ((rd_T26 t255 t258).f0,(rd_T26 t255 t258).f1,t266,t267)) = some (r1,r2,r3,r4):=H
     have A38:=Aside0.mk A380
     clear A380
     simp only [Option.some.injEq,Prod.mk.injEq] at H
     obtain ⟨rfl,rfl,rfl,rfl⟩:=H
     go_enter Tryd.func41,Tryd.ntmps41
     go_wp2_with (first | ((with_reducible refine gate_dst (N:=2) rfl ?_);refine Up.bx 2 26 #[.string (⟨#[]⟩ : ByteArray),.int .i64 0,.int .i64 0] ?_;intro gb254 hg w39 hbox hb;have n0_:=Aside0.mk (IsS70.below (Ip0 HI0) hb);have n1_:=Aside0.mk (KeepBut.trans (Up.Kp0 HK) (KeepBut.of_below hb g none) (.inl rfl));have n2_:=Aside0.mk (below_step (Up.Bs HB (IsS70.ge HI0.out)) hb);have n3_:=Aside0.mk (hbox);have n4_:=Aside0.mk ((by rw [hg];exact (keep_size (w:=w) (g:=g) (row:=none) (Up.Kp0 HK)) : w.heap.size ≤ gb254));have n5_:=Aside0.mk ((Nat.le_trans HW0.out (by rw [hg];exact (keep_size (w:=w) (g:=g) (row:=none) (Up.Kp0 HK)) : w.heap.size ≤ gb254) : w0.heap.size ≤ gb254));have n6_:=Aside0.mk ((by rw [hg];exact Nat.ne_of_lt (IsS70.lt (show IsS70 w0 _ g s0_0 s0_1 from by repeat (first | (with_reducible first | exact HI0.out | apply IsS70.alloc | apply IsS70.drewN | apply IsS70.drew | apply IsS70.set_1) | exact HI0.out))) : g ≠ gb254));have n7_:=Aside0.mk ((by rw [hg];exact Nat.ne_of_gt (IsS70.lt (show IsS70 w0 _ g s0_0 s0_1 from by repeat (first | (with_reducible first | exact HI0.out | apply IsS70.alloc | apply IsS70.drewN | apply IsS70.drew | apply IsS70.set_1) | exact HI0.out))) : gb254 ≠ g));clear HI0 HK HB;have HI0:=n0_;have HK:=n1_;have HB:=n2_;have BK254:=n3_;have GW254:=n4_;have GE254:=n5_;have NB0_254:=n6_;have NB254_0:=n7_;clear n0_ n1_ n2_ n3_ n4_ n5_ n6_ n7_ hb hbox hg) | ((with_reducible refine gate_callee (f:=36) rfl ?_);refine Up.gl (some 5) Tryd.func36 #[] ?_;(with_reducible refine (spec_l3Table.calls  t255 _ A2.out).mono ?_);rintro e w40 ⟨v256,rfl,ho0,hb⟩;refine ⟨_,rfl,?_⟩;have n0_:=Aside0.mk (Kd.R_lower (Kd.R_newB ho0 (g:=gb254) (o:=.cells #[.string (⟨#[]⟩ : ByteArray),.int .i64 0,.int .i64 0] 26 (0,0)) (Up.Kup BK254)) (keep_size (w:=w) (g:=g) (row:=none) (Up.Kp HK GW254)));have n1_:=Aside0.mk (IsS70.below (Ip1 HI0 NB0_254) hb);have n2_:=Up.KB BK254 hb;have n3_:=Aside0.mk (KeepBut.trans (Up.Kp HK GW254) (KeepBut.of_below hb g none) (.inl rfl));have n4_:=Aside0.mk (below_step (Up.Bt HB (IsS70.ge HI0.out) GE254) hb);clear HI0 BK254 HK HB;have HO257:=n0_;have HI0:=n1_;have BK254:=n2_;have HK:=n3_;have HB:=n4_;clear n0_ n1_ n2_ n3_ n4_;(try clear hb);(try clear hb2);(try clear hk);(try clear hi);(try clear ho0);obtain ⟨Ao41,co41,eo41⟩:=Kd.R_slice HO257.out;subst eo41) | ((with_reducible refine gate_callee (f:=42) rfl ?_);refine Up.gl (some 10) Tryd.func42 #[.pointer (some ⟨g,0,none⟩),.int .i64 (t255.length : Int)] ?_;(with_reducible refine (spec_l6Rd_pick.calls k g s0_0 s0_1 (t255.length : Int) t258 t259 w0 _ ?side1 ?side2 A3.out).mono ?_);(case side1 => repeat (first | (with_reducible first | exact HI0.out | apply IsS70.alloc | apply IsS70.drewN | apply IsS70.drew | apply IsS70.set_1 | refine IsS70.far ?_ NB0_254.out _) | exact HI0.out));(case side2 => repeat (first | (with_reducible first | exact HB.out | apply below_alloc | apply pw_below_drewN | apply below_drew1 | refine below_set ?_ (IsS70.ge HI0.out) | refine below_set ?_ GE254.out) | exact HB.out));rintro e w42 ⟨rfl,hi,hb,hk⟩;refine ⟨_,rfl,?_⟩;have n0_:=Aside0.mk (KeepBut.blk hk (g':=gb254) (o:=.cells #[.string (⟨#[]⟩ : ByteArray),.int .i64 0,.int .i64 0] 26 (0,0)) (Up.Kup BK254) NB254_0.out (by simp));have n1_:=Aside0.mk (Kd.R_mono (Kd.R_keep (IsS70.apart (show IsS70 w0 _ g s0_0 s0_1 from by repeat (first | (with_reducible first | exact HI0.out | apply IsS70.alloc | apply IsS70.drewN | apply IsS70.drew | apply IsS70.set_1 | refine IsS70.far ?_ NB0_254.out _) | exact HI0.out)) (Up.Rup HO257) (by decide)) hk (fun _ h => h.2)) (fun _ h => h.1));have n2_:=Aside0.mk (KeepBut.trans (Up.Kp HK GW254) hk (.inl rfl));have n3_:=Aside0.mk (hb);have n4_:=Aside0.mk (hi);clear BK254 HO257 HK HB HI0;have BK254:=n0_;have HO257:=n1_;have HK:=n2_;have HB:=n3_;have HI0:=n4_;clear n0_ n1_ n2_ n3_ n4_;(try clear hb);(try clear hb2);(try clear hk);(try clear hi);have p260 : 0 ≤ (t258 : Int):=Up.od;have q260 : t258 < (t255.length : Int):=Up.od;obtain ⟨ad260,e260,hx260_0,hx260_1,hx260_2⟩:=at_T26 (Kd.R_reads' HO257.out).2.2 t258 p260 q260;cases e260;replace p260:=eq_true p260;replace q260:=eq_true q260) | ((with_reducible refine gate_dst (N:=4) rfl ?_);refine Up.bx 4 26 #[.string (⟨#[]⟩ : ByteArray),.int .i64 0,.int .i64 0] ?_;intro gb261 hg w43 hbox hb;have n0_:=Aside0.mk (Kd.R_below (Kd.R_elderB (Up.Rup HO257) gb261 (Nat.le_of_eq hg.symm)) hb);have n1_:=Aside0.mk (IsS70.below (Ip1 HI0 NB0_254) hb);have n2_:=Up.KB BK254 hb;have n3_:=Aside0.mk (KeepBut.trans (Up.Kp HK GW254) (KeepBut.of_below hb g none) (.inl rfl));have n4_:=Aside0.mk (below_step (Up.Bt HB (IsS70.ge HI0.out) GE254) hb);have n5_:=Aside0.mk (hbox);have n6_:=Aside0.mk ((by rw [hg];exact (keep_size (w:=w) (g:=g) (row:=none) (Up.Kp HK GW254)) : w.heap.size ≤ gb261));have n7_:=Aside0.mk ((Nat.le_trans HW0.out (by rw [hg];exact (keep_size (w:=w) (g:=g) (row:=none) (Up.Kp HK GW254)) : w.heap.size ≤ gb261) : w0.heap.size ≤ gb261));have n8_:=Up.nl hg BK254;have n9_:=Up.ng hg BK254;have n10_:=Aside0.mk ((by rw [hg];exact Nat.ne_of_lt (IsS70.lt (show IsS70 w0 _ g s0_0 t259 from by repeat (first | (with_reducible first | exact HI0.out | apply IsS70.alloc | apply IsS70.drewN | apply IsS70.drew | apply IsS70.set_1 | refine IsS70.far ?_ NB0_254.out _) | exact HI0.out))) : g ≠ gb261));have n11_:=Aside0.mk ((by rw [hg];exact Nat.ne_of_gt (IsS70.lt (show IsS70 w0 _ g s0_0 t259 from by repeat (first | (with_reducible first | exact HI0.out | apply IsS70.alloc | apply IsS70.drewN | apply IsS70.drew | apply IsS70.set_1 | refine IsS70.far ?_ NB0_254.out _) | exact HI0.out))) : gb261 ≠ g));clear HO257 HI0 BK254 HK HB;have HO257:=n0_;have HI0:=n1_;have BK254:=n2_;have HK:=n3_;have HB:=n4_;have BK261:=n5_;have GW261:=n6_;have GE261:=n7_;have NB254_261:=n8_;have NB261_254:=n9_;have NB0_261:=n10_;have NB261_0:=n11_;clear n0_ n1_ n2_ n3_ n4_ n5_ n6_ n7_ n8_ n9_ n10_ n11_ hb hbox hg;have hnb44:=NB261_254.out;have hnc44:=NB254_261.out;have hnb45:=NB261_0.out;have hnc45:=NB0_261.out;have hcz46_0:=Up.c0 BK261;have hcz46_1:=Up.c1 BK261;have hcz46_2:=Up.c2 BK261;have hfz46_0:=blk_frozen BK261.out 0;have hfz46_1:=blk_frozen BK261.out 1;have hfz46_2:=blk_frozen BK261.out 2) | ((with_reducible refine gate_callee (f:=42) rfl ?_);refine Up.gl (some 28) Tryd.func42 #[.pointer (some ⟨g,0,none⟩),.int .i64 ((rd_T26 t255 t258).f2)] ?_;(with_reducible refine (spec_l6Rd_pick.calls k g s0_0 t259 ((rd_T26 t255 t258).f2) t266 t267 w0 _ ?side1 ?side2 A38.out).mono ?_);(case side1 => repeat (first | (with_reducible first | exact HI0.out | apply IsS70.alloc | apply IsS70.drewN | apply IsS70.drew | apply IsS70.set_1 | refine IsS70.far ?_ NB0_254.out _ | refine IsS70.far ?_ NB0_261.out _) | exact HI0.out));(case side2 => repeat (first | (with_reducible first | exact HB.out | apply below_alloc | apply pw_below_drewN | apply below_drew1 | refine below_set ?_ (IsS70.ge HI0.out) | refine below_set ?_ GE254.out | refine below_set ?_ GE261.out) | exact HB.out));rintro e w47 ⟨rfl,hi,hb,hk⟩;refine ⟨_,rfl,?_⟩;have n0_:=Aside0.mk (KeepBut.blk hk (g':=gb254) (o:=.cells #[.string (⟨#[]⟩ : ByteArray),.int .i64 0,.int .i64 0] 26 (0,0)) (Up.Kx BK254) NB254_0.out (by simp));have n1_:=Aside0.mk (Kd.R_mono (Kd.R_keep (IsS70.apart (show IsS70 w0 _ g s0_0 t259 from by repeat (first | (with_reducible first | exact HI0.out | apply IsS70.alloc | apply IsS70.drewN | apply IsS70.drew | apply IsS70.set_1 | refine IsS70.far ?_ NB0_254.out _ | refine IsS70.far ?_ NB0_261.out _) | exact HI0.out)) (by (with_reducible repeat (first | apply Kd.R_alloc | apply Kd.R_drewN | apply Kd.R_drew));exact (Kd.R_mono (Kd.R_far (p:=⟨gb261,2,none⟩) (Kd.R_far (p:=⟨gb261,1,none⟩) (Kd.R_far (p:=⟨gb261,0,none⟩) (Kd.R_mono HO257.out (fun k_ hk => (⟨hk,hk.2⟩ : _ ∧ k_ ≠ gb261))) (fun _ hk => hk.2) (.string ((rd_T26 t255 t258).f0))) (fun _ hk => hk.2) (.int .i64 ((rd_T26 t255 t258).f1))) (fun _ hk => hk.2) (.int .i64 ((rd_T26 t255 t258).f2))) (fun _ h_ => h_.1))) (by decide)) hk (fun _ h => h.2)) (fun _ h => h.1));have n2_:=Aside0.mk (KeepBut.blk hk (g':=gb261) (o:=.cells #[.string ((rd_T26 t255 t258).f0),.int .i64 ((rd_T26 t255 t258).f1),.int .i64 ((rd_T26 t255 t258).f2)] 26 (0,0)) (Up.Kx BK261) NB261_0.out (by simp));have n3_:=Aside0.mk (KeepBut.trans (by repeat (first | (with_reducible first | exact HK.out | apply KeepBut.set_ | apply keep_drewN | apply keep_drew | apply keep_alloc | refine keep_far ?_ GW254.out _ | refine keep_far ?_ GW261.out _) | exact HK.out)) hk (.inl rfl));have n4_:=Aside0.mk (hb);have n5_:=Aside0.mk (hi);clear BK254 HO257 BK261 HK HB HI0;have BK254:=n0_;have HO257:=n1_;have BK261:=n2_;have HK:=n3_;have HB:=n4_;have HI0:=n5_;clear n0_ n1_ n2_ n3_ n4_ n5_;(try clear hb);(try clear hb2);(try clear hk);(try clear hi);have hcz48_0:=Up.c0 BK261;have hcz48_1:=Up.c1 BK261;have hcz48_2:=Up.c2 BK261;have hfz48_0:=blk_frozen BK261.out 0;have hfz48_1:=blk_frozen BK261.out 1;have hfz48_2:=blk_frozen BK261.out 2;have hnb49:=NB254_0.out;have hnc49:=NB0_254.out;have hcz50_0:=Up.c0 BK254;have hcz50_1:=Up.c1 BK254;have hcz50_2:=Up.c2 BK254;have hfz50_0:=blk_frozen BK254.out 0;have hfz50_1:=blk_frozen BK254.out 1;have hfz50_2:=blk_frozen BK254.out 2))
     refine bodyPost_ret (results_cell_row rfl _ _ gb254 26 #[.string ((rd_T26 t255 t258).f0),.int .i64 ((rd_T26 t255 t258).f1),.int .i64 t266] (0,0) _ rfl (Up.Kx BK254) Tryd.underlying26 rfl (by kernel_rfl)) rfl ?_
     exact ⟨by first | rfl | (simp [errW_none,errW_some] <;> rfl) | (simp [*,errW_none,errW_some] <;> rfl),by repeat (first | (with_reducible first | exact HI0.out | apply IsS70.alloc | apply IsS70.drewN | apply IsS70.drew | apply IsS70.set_1 | refine IsS70.far ?_ NB0_254.out _ | refine IsS70.far ?_ NB0_261.out _) | exact HI0.out),by repeat (first | (with_reducible first | exact HB.out | apply below_alloc | apply pw_below_drewN | apply below_drew1 | refine below_set ?_ (IsS70.ge HI0.out) | refine below_set ?_ GE254.out | refine below_set ?_ GE261.out) | exact HB.out),by repeat (first | (with_reducible first | exact HK.out | apply KeepBut.set_ | apply keep_drewN | apply keep_drew | apply keep_alloc | refine keep_far ?_ GW254.out _ | refine keep_far ?_ GW261.out _) | exact HK.out)⟩
    ·rw [if_neg c37] at H
     have c37b0 : decide (0 < ((rd_T26 t255 t258).f2)) = false:=decide_eq_false c37
     clear c37
     simp only [Option.some.injEq,Prod.mk.injEq] at H
     obtain ⟨rfl,rfl,rfl,rfl⟩:=H
     go_enter Tryd.func41,Tryd.ntmps41
     go_wp2_with (first | ((with_reducible refine gate_dst (N:=2) rfl ?_);refine Up.bx 2 26 #[.string (⟨#[]⟩ : ByteArray),.int .i64 0,.int .i64 0] ?_;intro gb254 hg w51 hbox hb;have n0_:=Aside0.mk (IsS70.below (Ip0 HI0) hb);have n1_:=Aside0.mk (KeepBut.trans (Up.Kp0 HK) (KeepBut.of_below hb g none) (.inl rfl));have n2_:=Aside0.mk (below_step (Up.Bs HB (IsS70.ge HI0.out)) hb);have n3_:=Aside0.mk (hbox);have n4_:=Aside0.mk ((by rw [hg];exact (keep_size (w:=w) (g:=g) (row:=none) (Up.Kp0 HK)) : w.heap.size ≤ gb254));have n5_:=Aside0.mk ((Nat.le_trans HW0.out (by rw [hg];exact (keep_size (w:=w) (g:=g) (row:=none) (Up.Kp0 HK)) : w.heap.size ≤ gb254) : w0.heap.size ≤ gb254));have n6_:=Aside0.mk ((by rw [hg];exact Nat.ne_of_lt (IsS70.lt (show IsS70 w0 _ g s0_0 s0_1 from by repeat (first | (with_reducible first | exact HI0.out | apply IsS70.alloc | apply IsS70.drewN | apply IsS70.drew | apply IsS70.set_1) | exact HI0.out))) : g ≠ gb254));have n7_:=Aside0.mk ((by rw [hg];exact Nat.ne_of_gt (IsS70.lt (show IsS70 w0 _ g s0_0 s0_1 from by repeat (first | (with_reducible first | exact HI0.out | apply IsS70.alloc | apply IsS70.drewN | apply IsS70.drew | apply IsS70.set_1) | exact HI0.out))) : gb254 ≠ g));clear HI0 HK HB;have HI0:=n0_;have HK:=n1_;have HB:=n2_;have BK254:=n3_;have GW254:=n4_;have GE254:=n5_;have NB0_254:=n6_;have NB254_0:=n7_;clear n0_ n1_ n2_ n3_ n4_ n5_ n6_ n7_ hb hbox hg) | ((with_reducible refine gate_callee (f:=36) rfl ?_);refine Up.gl (some 5) Tryd.func36 #[] ?_;(with_reducible refine (spec_l3Table.calls  t255 _ A2.out).mono ?_);rintro e w52 ⟨v256,rfl,ho0,hb⟩;refine ⟨_,rfl,?_⟩;have n0_:=Aside0.mk (Kd.R_lower (Kd.R_newB ho0 (g:=gb254) (o:=.cells #[.string (⟨#[]⟩ : ByteArray),.int .i64 0,.int .i64 0] 26 (0,0)) (Up.Kup BK254)) (keep_size (w:=w) (g:=g) (row:=none) (Up.Kp HK GW254)));have n1_:=Aside0.mk (IsS70.below (Ip1 HI0 NB0_254) hb);have n2_:=Up.KB BK254 hb;have n3_:=Aside0.mk (KeepBut.trans (Up.Kp HK GW254) (KeepBut.of_below hb g none) (.inl rfl));have n4_:=Aside0.mk (below_step (Up.Bt HB (IsS70.ge HI0.out) GE254) hb);clear HI0 BK254 HK HB;have HO257:=n0_;have HI0:=n1_;have BK254:=n2_;have HK:=n3_;have HB:=n4_;clear n0_ n1_ n2_ n3_ n4_;(try clear hb);(try clear hb2);(try clear hk);(try clear hi);(try clear ho0);obtain ⟨Ao53,co53,eo53⟩:=Kd.R_slice HO257.out;subst eo53) | ((with_reducible refine gate_callee (f:=42) rfl ?_);refine Up.gl (some 10) Tryd.func42 #[.pointer (some ⟨g,0,none⟩),.int .i64 (t255.length : Int)] ?_;(with_reducible refine (spec_l6Rd_pick.calls k g s0_0 s0_1 (t255.length : Int) t258 t259 w0 _ ?side1 ?side2 A3.out).mono ?_);(case side1 => repeat (first | (with_reducible first | exact HI0.out | apply IsS70.alloc | apply IsS70.drewN | apply IsS70.drew | apply IsS70.set_1 | refine IsS70.far ?_ NB0_254.out _) | exact HI0.out));(case side2 => repeat (first | (with_reducible first | exact HB.out | apply below_alloc | apply pw_below_drewN | apply below_drew1 | refine below_set ?_ (IsS70.ge HI0.out) | refine below_set ?_ GE254.out) | exact HB.out));rintro e w54 ⟨rfl,hi,hb,hk⟩;refine ⟨_,rfl,?_⟩;have n0_:=Aside0.mk (KeepBut.blk hk (g':=gb254) (o:=.cells #[.string (⟨#[]⟩ : ByteArray),.int .i64 0,.int .i64 0] 26 (0,0)) (Up.Kup BK254) NB254_0.out (by simp));have n1_:=Aside0.mk (Kd.R_mono (Kd.R_keep (IsS70.apart (show IsS70 w0 _ g s0_0 s0_1 from by repeat (first | (with_reducible first | exact HI0.out | apply IsS70.alloc | apply IsS70.drewN | apply IsS70.drew | apply IsS70.set_1 | refine IsS70.far ?_ NB0_254.out _) | exact HI0.out)) (Up.Rup HO257) (by decide)) hk (fun _ h => h.2)) (fun _ h => h.1));have n2_:=Aside0.mk (KeepBut.trans (Up.Kp HK GW254) hk (.inl rfl));have n3_:=Aside0.mk (hb);have n4_:=Aside0.mk (hi);clear BK254 HO257 HK HB HI0;have BK254:=n0_;have HO257:=n1_;have HK:=n2_;have HB:=n3_;have HI0:=n4_;clear n0_ n1_ n2_ n3_ n4_;(try clear hb);(try clear hb2);(try clear hk);(try clear hi);have p260 : 0 ≤ (t258 : Int):=Up.od;have q260 : t258 < (t255.length : Int):=Up.od;obtain ⟨ad260,e260,hx260_0,hx260_1,hx260_2⟩:=at_T26 (Kd.R_reads' HO257.out).2.2 t258 p260 q260;cases e260;replace p260:=eq_true p260;replace q260:=eq_true q260) | ((with_reducible refine gate_dst (N:=4) rfl ?_);refine Up.bx 4 26 #[.string (⟨#[]⟩ : ByteArray),.int .i64 0,.int .i64 0] ?_;intro gb261 hg w55 hbox hb;have n0_:=Aside0.mk (Kd.R_below (Kd.R_elderB (Up.Rup HO257) gb261 (Nat.le_of_eq hg.symm)) hb);have n1_:=Aside0.mk (IsS70.below (Ip1 HI0 NB0_254) hb);have n2_:=Up.KB BK254 hb;have n3_:=Aside0.mk (KeepBut.trans (Up.Kp HK GW254) (KeepBut.of_below hb g none) (.inl rfl));have n4_:=Aside0.mk (below_step (Up.Bt HB (IsS70.ge HI0.out) GE254) hb);have n5_:=Aside0.mk (hbox);have n6_:=Aside0.mk ((by rw [hg];exact (keep_size (w:=w) (g:=g) (row:=none) (Up.Kp HK GW254)) : w.heap.size ≤ gb261));have n7_:=Aside0.mk ((Nat.le_trans HW0.out (by rw [hg];exact (keep_size (w:=w) (g:=g) (row:=none) (Up.Kp HK GW254)) : w.heap.size ≤ gb261) : w0.heap.size ≤ gb261));have n8_:=Up.nl hg BK254;have n9_:=Up.ng hg BK254;have n10_:=Aside0.mk ((by rw [hg];exact Nat.ne_of_lt (IsS70.lt (show IsS70 w0 _ g s0_0 t259 from by repeat (first | (with_reducible first | exact HI0.out | apply IsS70.alloc | apply IsS70.drewN | apply IsS70.drew | apply IsS70.set_1 | refine IsS70.far ?_ NB0_254.out _) | exact HI0.out))) : g ≠ gb261));have n11_:=Aside0.mk ((by rw [hg];exact Nat.ne_of_gt (IsS70.lt (show IsS70 w0 _ g s0_0 t259 from by repeat (first | (with_reducible first | exact HI0.out | apply IsS70.alloc | apply IsS70.drewN | apply IsS70.drew | apply IsS70.set_1 | refine IsS70.far ?_ NB0_254.out _) | exact HI0.out))) : gb261 ≠ g));clear HO257 HI0 BK254 HK HB;have HO257:=n0_;have HI0:=n1_;have BK254:=n2_;have HK:=n3_;have HB:=n4_;have BK261:=n5_;have GW261:=n6_;have GE261:=n7_;have NB254_261:=n8_;have NB261_254:=n9_;have NB0_261:=n10_;have NB261_0:=n11_;clear n0_ n1_ n2_ n3_ n4_ n5_ n6_ n7_ n8_ n9_ n10_ n11_ hb hbox hg;have hnb56:=NB261_254.out;have hnc56:=NB254_261.out;have hnb57:=NB261_0.out;have hnc57:=NB0_261.out;have hcz58_0:=Up.c0 BK261;have hcz58_1:=Up.c1 BK261;have hcz58_2:=Up.c2 BK261;have hfz58_0:=blk_frozen BK261.out 0;have hfz58_1:=blk_frozen BK261.out 1;have hfz58_2:=blk_frozen BK261.out 2;have hnb59:=NB254_0.out;have hnc59:=NB0_254.out;have hcz60_0:=Up.c0 BK254;have hcz60_1:=Up.c1 BK254;have hcz60_2:=Up.c2 BK254;have hfz60_0:=blk_frozen BK254.out 0;have hfz60_1:=blk_frozen BK254.out 1;have hfz60_2:=blk_frozen BK254.out 2))
     refine bodyPost_ret (results_cell_row rfl _ _ gb254 26 #[.string ((rd_T26 t255 t258).f0),.int .i64 ((rd_T26 t255 t258).f1),.int .i64 ((rd_T26 t255 t258).f2)] (0,0) _ rfl (Up.Kx BK254) Tryd.underlying26 rfl (by kernel_rfl)) rfl ?_
     exact ⟨by first | rfl | (simp [errW_none,errW_some] <;> rfl) | (simp [*,errW_none,errW_some] <;> rfl),by repeat (first | (with_reducible first | exact HI0.out | apply IsS70.alloc | apply IsS70.drewN | apply IsS70.drew | apply IsS70.set_1 | refine IsS70.far ?_ NB0_254.out _ | refine IsS70.far ?_ NB0_261.out _) | exact HI0.out),by repeat (first | (with_reducible first | exact HB.out | apply below_alloc | apply pw_below_drewN | apply below_drew1 | refine below_set ?_ (IsS70.ge HI0.out) | refine below_set ?_ GE254.out | refine below_set ?_ GE261.out) | exact HB.out),by repeat (first | (with_reducible first | exact HK.out | apply KeepBut.set_ | apply keep_drewN | apply keep_drew | apply keep_alloc | refine keep_far ?_ GW254.out _ | refine keep_far ?_ GW261.out _) | exact HK.out)⟩
  ·rw [if_neg c5] at H
   exact absurd H (by simp)
 ·rw [if_neg c4] at H
  exact absurd H (by simp)

/-! ### spec_l6Rd_of: function 44 -/
def spec_l6Rd_of.f (k : Nat) (s0_0 : List Int) (s0_1 : Int) (l1 : List ByteArray) : Option (ByteArray × Int):=(spec_l6Rd_pick.f k s0_0 s0_1 (l1.length : Int)).bind fun bt268 => (if 0 ≤ bt268.1 then (if bt268.1 < (l1.length : Int) then (some (rdOf ByteArray.empty l1 bt268.1,bt268.2)) else (none)) else (none))
theorem spec_l6Rd_of.mono : ∀ a0 a1 a2 k,LeO (spec_l6Rd_of.f k a0 a1 a2) (spec_l6Rd_of.f (k + 1) a0 a1 a2):=by
 intro a0 a1 a2 k
 unfold spec_l6Rd_of.f
 repeat' first
   | (with_reducible exact spec_l6Rd_pick.mono _ _ _ _)
   | (with_reducible exact LeO.refl _)
   | (with_reducible exact LeO.none _)
   | (with_reducible refine LeO.ite ?_ ?_)
   | (with_reducible refine LeO.bind ?_ (fun _ => ?_))
   | exact spec_l6Rd_pick.mono _ _ _ _
   | exact LeO.none _
   | refine LeO.ite ?_ ?_
   | refine LeO.bind ?_ (fun _ => ?_)
set_option maxHeartbeats 8000000 in
set_option maxRecDepth 100000 in
theorem spec_l6Rd_of.calls (k : Nat) (g : Nat) (s0_0 : List Int) (s0_1 : Int) (A1 : Option Addr) (c1 : Nat) (l1 : List ByteArray) (r1 : ByteArray) (r2 : Int) (w0 w : World) (hI : IsS70 w0 w g s0_0 s0_1) (hB : Below w0.heap.size w0 w) (hr1 : Kd.C Kd.string w A1 l1.length l1) (hc1 : l1.length ≤ c1) (hf1 : ∀ ad,A1 = some ad → 0 < l1.length → ad.block ≠ g) (h : spec_l6Rd_of.f k s0_0 s0_1 l1 = some (r1,r2)) :
  Calls Tryd.prog 44 #[.pointer (some ⟨g,0,none⟩),.slice A1 l1.length c1] w fun e w' => e = .returned (.string r1) ∧ IsS70 w0 w' g s0_0 r2 ∧ Below w0.heap.size w0 w' ∧ KeepBut w w' g none:=by
 have HR1:=Aside0.mk hr1
 have HC1:=Aside0.mk hc1
 clear hr1 hc1
 have HI0:=Aside0.mk hI
 have HK:=Aside0.mk (KeepBut.refl w g none)
 have HL:=Aside0.mk hB.size
 clear hI
 have HW0:=Aside0.mk hB.size
 have HB:=Aside0.mk hB
 clear hB
 have H : ((spec_l6Rd_pick.f k s0_0 s0_1 (l1.length : Int)).bind fun bt268 => (if 0 ≤ bt268.1 then (if bt268.1 < (l1.length : Int) then (some (rdOf ByteArray.empty l1 bt268.1,bt268.2)) else (none)) else (none))) = some (r1,r2):=h
 clear h
 replace H:=Option.bind_eq_some_iff.mp H
 obtain ⟨⟨t268,t269⟩,A30,H⟩:=H
 replace H : (if 0 ≤ t268 then (if t268 < (l1.length : Int) then (some (rdOf ByteArray.empty l1 t268,t269)) else (none)) else (none)) = some (r1,r2):=H
 have A3:=Aside0.mk A30
 clear A30
 by_cases c4 : 0 ≤ t268
 ·rw [if_pos c4] at H
  have c4b0 : decide (0 ≤ t268) = true:=decide_eq_true c4
  clear c4
  by_cases c5 : t268 < (l1.length : Int)
  ·rw [if_pos c5] at H
   have c5b0 : decide (t268 < (l1.length : Int)) = true:=decide_eq_true c5
   clear c5
   simp only [Option.some.injEq,Prod.mk.injEq] at H
   obtain ⟨rfl,rfl⟩:=H
   go_enter Tryd.func44,Tryd.ntmps44
   go_wp2_with (first | ((with_reducible refine gate_callee (f:=42) rfl ?_);refine Up.gl (some 9) Tryd.func42 #[.pointer (some ⟨g,0,none⟩),.int .i64 (l1.length : Int)] ?_;(with_reducible refine (spec_l6Rd_pick.calls k g s0_0 s0_1 (l1.length : Int) t268 t269 w0 _ ?side1 ?side2 A3.out).mono ?_);(case side1 => repeat (first | (with_reducible first | exact HI0.out | apply IsS70.alloc | apply IsS70.drewN | apply IsS70.drew | apply IsS70.set_1) | exact HI0.out));(case side2 => repeat (first | (with_reducible first | exact HB.out | apply below_alloc | apply pw_below_drewN | apply below_drew1 | refine below_set ?_ (IsS70.ge HI0.out)) | exact HB.out));rintro e w6 ⟨rfl,hi,hb,hk⟩;refine ⟨_,rfl,?_⟩;have n0_:=Aside0.mk (KeepBut.trans (Up.Kp0 HK) hk (.inl rfl));have n1_:=Aside0.mk (hb);have n2_:=Aside0.mk (hi);clear HK HB HI0;have HK:=n0_;have HB:=n1_;have HI0:=n2_;clear n0_ n1_ n2_;(try clear hb);(try clear hb2);(try clear hk);(try clear hi);have p270 : 0 ≤ (t268 : Int):=Up.od;have q270 : t268 < (l1.length : Int):=Up.od;obtain ⟨ad270,e270,hx270_0⟩:=Kd.at_string HR1.out t268 p270 q270;cases e270;replace hx270_0:=keep_cell HK.out hx270_0 (by first | (rw [add_block];exact hf1 _ rfl (by omega)) | exact hf1 _ rfl (by omega) | exact hf1 ad270 rfl (by omega));replace p270:=eq_true p270;replace q270:=eq_true q270))
   go_ret
   exact ⟨by first | rfl | (simp [errW_none,errW_some] <;> rfl) | (simp [*,errW_none,errW_some] <;> rfl),by repeat (first | (with_reducible first | exact HI0.out | apply IsS70.alloc | apply IsS70.drewN | apply IsS70.drew | apply IsS70.set_1) | exact HI0.out),by repeat (first | (with_reducible first | exact HB.out | apply below_alloc | apply pw_below_drewN | apply below_drew1 | refine below_set ?_ (IsS70.ge HI0.out)) | exact HB.out),by repeat (first | (with_reducible first | exact HK.out | apply KeepBut.set_ | apply keep_drewN | apply keep_drew | apply keep_alloc) | exact HK.out)⟩
  ·rw [if_neg c5] at H
   exact absurd H (by simp)
 ·rw [if_neg c4] at H
  exact absurd H (by simp)

/-! ### spec_DrawInsRead: function 29 -/
def spec_DrawInsRead.j0 : Nat → ByteArray → List Int → Int → Option (ByteArray)
 | 0,_,_,_ => none
 | k + 1,x4,x274000,x274001 => (spec_l6Rd_pick.f k x274000 x274001 8).bind fun bt286 => (if bt286.1 = 0 then ((spec_l6Rd_of.f k x274000 bt286.2 (([(⟨#[]⟩ : ByteArray),(⟨#[110,117,109]⟩ : ByteArray),(⟨#[110,117,109,32,48,49]⟩ : ByteArray),(⟨#[110,117,109,32,49,48,48,48,48,48,49]⟩ : ByteArray),(⟨#[102,105,101,108,100,32,49]⟩ : ByteArray),(⟨#[99,97,108,108,32,48,32,48,32,48]⟩ : ByteArray),(⟨#[32,100,114,111,112]⟩ : ByteArray),(⟨#[110,117,109,32,45,49]⟩ : ByteArray)] : List ByteArray))).bind fun bt291 => (some bt291.1)) else (some x4))
def spec_DrawInsRead.f (k : Nat) (l0 : List Int) : Option (ByteArray):=(spec_l6Open.f l0).bind fun bt271 => ((spec_l91Ins.f k bt271.1 bt271.2).bind fun bt274 => ((spec_InsText.f k bt274.1 bt274.2.1 bt274.2.2.1).bind fun t278 => ((spec_l6Rd_pick.f k bt271.1 bt274.2.2.2 4).bind fun bt279 => (if bt279.1 = 0 then ((spec_l6Rd_of.f k bt271.1 bt279.2 (([(⟨#[32]⟩ : ByteArray),(⟨#[32,49]⟩ : ByteArray),(⟨#[48]⟩ : ByteArray),(⟨#[32,120]⟩ : ByteArray)] : List ByteArray))).bind fun bt284 => (if t278.size + bt284.1.size ≤ 9223372036854775807 then (spec_DrawInsRead.j0 k (t278 ++ bt284.1) bt271.1 bt284.2) else (none))) else (spec_DrawInsRead.j0 k t278 bt271.1 bt279.2)))))
theorem spec_DrawInsRead.mono_l : ∀ k,(∀ y0 y1 y2,LeO (spec_DrawInsRead.j0 k y0 y1 y2) (spec_DrawInsRead.j0 (k + 1) y0 y1 y2))
 | 0 => fun _ _ _ r h => by simp [spec_DrawInsRead.j0] at h
 | k + 1 => by
  have ih0:=spec_DrawInsRead.mono_l k
  ·intro y0 y1 y2
   unfold spec_DrawInsRead.j0
   repeat' first
   | (with_reducible exact ih0 _ _ _)
   | (with_reducible exact spec_InsText.mono _ _ _ _)
   | (with_reducible exact spec_l6Rd_of.mono _ _ _ _)
   | (with_reducible exact spec_l6Rd_pick.mono _ _ _ _)
   | (with_reducible exact spec_l91Ins.mono _ _ _)
   | (with_reducible exact LeO.refl _)
   | (with_reducible exact LeO.none _)
   | (with_reducible refine LeO.ite ?_ ?_)
   | (with_reducible refine LeO.bind ?_ (fun _ => ?_))
   | exact ih0 _ _ _
   | exact spec_InsText.mono _ _ _ _
   | exact spec_l6Rd_of.mono _ _ _ _
   | exact spec_l6Rd_pick.mono _ _ _ _
   | exact spec_l91Ins.mono _ _ _
   | exact LeO.none _
   | refine LeO.ite ?_ ?_
   | refine LeO.bind ?_ (fun _ => ?_)
theorem spec_DrawInsRead.mono : ∀ a0 k,LeO (spec_DrawInsRead.f k a0) (spec_DrawInsRead.f (k + 1) a0):=by
 intro a0 k
 have ih0:=spec_DrawInsRead.mono_l k
 unfold spec_DrawInsRead.f
 repeat' first
   | (with_reducible exact ih0 _ _ _)
   | (with_reducible exact spec_InsText.mono _ _ _ _)
   | (with_reducible exact spec_l6Rd_of.mono _ _ _ _)
   | (with_reducible exact spec_l6Rd_pick.mono _ _ _ _)
   | (with_reducible exact spec_l91Ins.mono _ _ _)
   | (with_reducible exact LeO.refl _)
   | (with_reducible exact LeO.none _)
   | (with_reducible refine LeO.ite ?_ ?_)
   | (with_reducible refine LeO.bind ?_ (fun _ => ?_))
   | exact ih0 _ _ _
   | exact spec_InsText.mono _ _ _ _
   | exact spec_l6Rd_of.mono _ _ _ _
   | exact spec_l6Rd_pick.mono _ _ _ _
   | exact spec_l91Ins.mono _ _ _
   | exact LeO.none _
   | refine LeO.ite ?_ ?_
   | refine LeO.bind ?_ (fun _ => ?_)
set_option maxHeartbeats 8000000 in
set_option maxRecDepth 100000 in
theorem spec_DrawInsRead.calls (k : Nat) (A0 : Option Addr) (c0 : Nat) (l0 : List Int) (r : ByteArray) (w : World) (hr0 : Kd.C (Kd.int .u8) w A0 l0.length l0) (hc0 : l0.length ≤ c0) (h : spec_DrawInsRead.f k l0 = some r) :
  Calls Tryd.prog 29 #[.slice A0 l0.length c0] w fun e w' => e = .returned (.string r) ∧ Below w.heap.size w w':=by
 have HR0:=Aside0.mk hr0
 have HC0:=Aside0.mk hc0
 clear hr0 hc0
 have HB:=Aside0.mk (Below.refl w.heap.size w)
 have H : ((spec_l6Open.f l0).bind fun bt271 => ((spec_l91Ins.f k bt271.1 bt271.2).bind fun bt274 => ((spec_InsText.f k bt274.1 bt274.2.1 bt274.2.2.1).bind fun t278 => ((spec_l6Rd_pick.f k bt271.1 bt274.2.2.2 4).bind fun bt279 => (if bt279.1 = 0 then ((spec_l6Rd_of.f k bt271.1 bt279.2 (([(⟨#[32]⟩ : ByteArray),(⟨#[32,49]⟩ : ByteArray),(⟨#[48]⟩ : ByteArray),(⟨#[32,120]⟩ : ByteArray)] : List ByteArray))).bind fun bt284 => (if t278.size + bt284.1.size ≤ 9223372036854775807 then (spec_DrawInsRead.j0 k (t278 ++ bt284.1) bt271.1 bt284.2) else (none))) else (spec_DrawInsRead.j0 k t278 bt271.1 bt279.2)))))) = some r:=h
 clear h
 replace H:=Option.bind_eq_some_iff.mp H
 obtain ⟨⟨t271,t272⟩,A20,H⟩:=H
 replace H : ((spec_l91Ins.f k t271 t272).bind fun bt274 => ((spec_InsText.f k bt274.1 bt274.2.1 bt274.2.2.1).bind fun t278 => ((spec_l6Rd_pick.f k t271 bt274.2.2.2 4).bind fun bt279 => (if bt279.1 = 0 then ((spec_l6Rd_of.f k t271 bt279.2 (([(⟨#[32]⟩ : ByteArray),(⟨#[32,49]⟩ : ByteArray),(⟨#[48]⟩ : ByteArray),(⟨#[32,120]⟩ : ByteArray)] : List ByteArray))).bind fun bt284 => (if t278.size + bt284.1.size ≤ 9223372036854775807 then (spec_DrawInsRead.j0 k (t278 ++ bt284.1) t271 bt284.2) else (none))) else (spec_DrawInsRead.j0 k t278 t271 bt279.2))))) = some r:=H
 have A2:=Aside0.mk A20
 clear A20
 replace H:=Option.bind_eq_some_iff.mp H
 obtain ⟨⟨t274,t275,t276,t277⟩,A30,H⟩:=H
 replace H : ((spec_InsText.f k t274 t275 t276).bind fun t278 => ((spec_l6Rd_pick.f k t271 t277 4).bind fun bt279 => (if bt279.1 = 0 then ((spec_l6Rd_of.f k t271 bt279.2 (([(⟨#[32]⟩ : ByteArray),(⟨#[32,49]⟩ : ByteArray),(⟨#[48]⟩ : ByteArray),(⟨#[32,120]⟩ : ByteArray)] : List ByteArray))).bind fun bt284 => (if t278.size + bt284.1.size ≤ 9223372036854775807 then (spec_DrawInsRead.j0 k (t278 ++ bt284.1) t271 bt284.2) else (none))) else (spec_DrawInsRead.j0 k t278 t271 bt279.2)))) = some r:=H
 have A3:=Aside0.mk A30
 clear A30
 replace H:=Option.bind_eq_some_iff.mp H
 obtain ⟨t278,A40,H⟩:=H
 replace H : ((spec_l6Rd_pick.f k t271 t277 4).bind fun bt279 => (if bt279.1 = 0 then ((spec_l6Rd_of.f k t271 bt279.2 (([(⟨#[32]⟩ : ByteArray),(⟨#[32,49]⟩ : ByteArray),(⟨#[48]⟩ : ByteArray),(⟨#[32,120]⟩ : ByteArray)] : List ByteArray))).bind fun bt284 => (if t278.size + bt284.1.size ≤ 9223372036854775807 then (spec_DrawInsRead.j0 k (t278 ++ bt284.1) t271 bt284.2) else (none))) else (spec_DrawInsRead.j0 k t278 t271 bt279.2))) = some r:=H
 have A4:=Aside0.mk A40
 clear A40
 replace H:=Option.bind_eq_some_iff.mp H
 obtain ⟨⟨t279,t280⟩,A50,H⟩:=H
 replace H : (if t279 = 0 then ((spec_l6Rd_of.f k t271 t280 (([(⟨#[32]⟩ : ByteArray),(⟨#[32,49]⟩ : ByteArray),(⟨#[48]⟩ : ByteArray),(⟨#[32,120]⟩ : ByteArray)] : List ByteArray))).bind fun bt284 => (if t278.size + bt284.1.size ≤ 9223372036854775807 then (spec_DrawInsRead.j0 k (t278 ++ bt284.1) t271 bt284.2) else (none))) else (spec_DrawInsRead.j0 k t278 t271 t280)) = some r:=H
 have A5:=Aside0.mk A50
 clear A50
 have HC6:=Aside0.mk H
 clear H
 go_enter Tryd.func29,Tryd.ntmps29
 go_upto_if 12 with (first | ((with_reducible refine gate_callee (f:=40) rfl ?_);refine Up.gl (some 6) Tryd.func40 #[.slice A0 l0.length c0] ?_;(with_reducible refine (spec_l6Open.calls _ _ l0 t271 t272 w _ ?side1 ?side2 ?side3 A2.out).mono ?_);(case side1 => repeat (first | (with_reducible first | exact HB.out | apply below_alloc | apply pw_below_drewN | apply below_drew1) | exact HB.out));(case side2 => exact HR0.out);(case side3 => exact HC0.out);rintro e w7 ⟨g273,rfl,hi,hb,hb2⟩;refine ⟨_,rfl,?_⟩;have n0_:=Aside0.mk (hb);have n1_:=Aside0.mk (hi);clear HB;have HB:=n0_;have HI273:=n1_;clear n0_ n1_;(try clear hb);(try clear hb2);(try clear hk);(try clear hi)) | ((with_reducible refine gate_callee (f:=41) rfl ?_);refine Up.gl (some 8) Tryd.func41 #[.pointer (some ⟨g273,0,none⟩)] ?_;(with_reducible refine (spec_l91Ins.calls k g273 t271 t272 t274 t275 t276 t277 w _ ?side1 ?side2 A3.out).mono ?_);(case side1 => repeat (first | (with_reducible first | exact HI273.out | apply IsS70.alloc | apply IsS70.drewN | apply IsS70.drew | apply IsS70.set_1) | exact HI273.out));(case side2 => repeat (first | (with_reducible first | exact HB.out | apply below_alloc | apply pw_below_drewN | apply below_drew1 | refine below_set ?_ (IsS70.ge HI273.out)) | exact HB.out));rintro e w8 ⟨rfl,hi,hb,hk⟩;refine ⟨_,rfl,?_⟩;have n0_:=Aside0.mk (hb);have n1_:=Aside0.mk (hi);clear HB HI273;have HB:=n0_;have HI273:=n1_;clear n0_ n1_;(try clear hb);(try clear hb2);(try clear hk);(try clear hi)) | ((with_reducible refine gate_callee (f:=22) rfl ?_);refine Up.gl (some 9) Tryd.func22 #[.agg #[.string t274,.int .i64 t275,.int .i64 t276]] ?_;(with_reducible refine (spec_InsText.calls k t274 t275 t276 t278 _ A4.out).mono ?_);rintro e w9 ⟨rfl,hb⟩;refine ⟨_,rfl,?_⟩;have n0_:=Aside0.mk (IsS70.below (by repeat (first | (with_reducible first | exact HI273.out | apply IsS70.alloc | apply IsS70.drewN | apply IsS70.drew | apply IsS70.set_1) | exact HI273.out)) hb);have n1_:=Aside0.mk (below_step (by repeat (first | (with_reducible first | exact HB.out | apply below_alloc | apply pw_below_drewN | apply below_drew1 | refine below_set ?_ (IsS70.ge HI273.out)) | exact HB.out)) hb);clear HI273 HB;have HI273:=n0_;have HB:=n1_;clear n0_ n1_;(try clear hb);(try clear hb2);(try clear hk);(try clear hi)) | ((with_reducible refine gate_callee (f:=42) rfl ?_);refine Up.gl (some 11) Tryd.func42 #[.pointer (some ⟨g273,0,none⟩),.int .i64 4] ?_;(with_reducible refine (spec_l6Rd_pick.calls k g273 t271 t277 4 t279 t280 w _ ?side1 ?side2 A5.out).mono ?_);(case side1 => repeat (first | (with_reducible first | exact HI273.out | apply IsS70.alloc | apply IsS70.drewN | apply IsS70.drew | apply IsS70.set_1) | exact HI273.out));(case side2 => repeat (first | (with_reducible first | exact HB.out | apply below_alloc | apply pw_below_drewN | apply below_drew1 | refine below_set ?_ (IsS70.ge HI273.out)) | exact HB.out));rintro e w10 ⟨rfl,hi,hb,hk⟩;refine ⟨_,rfl,?_⟩;have n0_:=Aside0.mk (hb);have n1_:=Aside0.mk (hi);clear HB HI273;have HB:=n0_;have HI273:=n1_;clear n0_ n1_;(try clear hb);(try clear hb2);(try clear hk);(try clear hi)))
 (try simp only [Act.put,List.setIfInBounds_toArray,List.set_cons_zero,List.set_cons_succ])
 go_cut [4] (fun v4 wc => ∃ (kq : Nat) (x4_5 : ByteArray) (x274001_5 : Int),v4 = .string x4_5 ∧ Aside0 (spec_DrawInsRead.j0 kq x4_5 t271 x274001_5 = some r) ∧ Aside0 (kq ≤ k) ∧ Aside0 (IsS70 w wc g273 t271 x274001_5) ∧ Aside0 (Below w.heap.size w wc))
 case first =>
  have H:=HC6.out
  clear HC6
  by_cases c11 : t279 = 0
  ·rw [if_pos c11] at H
   have c11b0 : (t279 == 0) = true:=beq_iff_eq.mpr c11
   have c11b1 : (t279 != 0) = false:=bne_eq_false_iff_eq.mpr c11
   clear c11
   (first | rw [c11b0] | (simp only [i64_w,i32_w];rw [c11b0]) | skip)
   obtain ⟨y281,hy281⟩ : ∃ y_ : List ByteArray,y_ = (([(⟨#[32]⟩ : ByteArray),(⟨#[32,49]⟩ : ByteArray),(⟨#[48]⟩ : ByteArray),(⟨#[32,120]⟩ : ByteArray)] : List ByteArray)):=⟨_,rfl⟩
   replace H : ((spec_l6Rd_of.f k t271 t280 y281).bind fun bt284 => (if t278.size + bt284.1.size ≤ 9223372036854775807 then (spec_DrawInsRead.j0 k (t278 ++ bt284.1) t271 bt284.2) else (none))) = some r:=by first | (rw [hy281];with_reducible exact H) | (have H2_:=(Option.bind_some _ _).symm.trans H;rw [hy281];with_reducible exact H2_) | (have H2_:=(Option.bind_some _ _).symm.trans H;with_reducible exact H2_) | with_reducible exact H | (rw [hy281];exact H) | exact H
   have Ny281:=Aside0.mk hy281
   clear hy281
   replace H:=Option.bind_eq_some_iff.mp H
   obtain ⟨⟨t284,t285⟩,A120,H⟩:=H
   replace H : (if t278.size + t284.size ≤ 9223372036854775807 then (spec_DrawInsRead.j0 k (t278 ++ t284) t271 t285) else (none)) = some r:=H
   have A12:=Aside0.mk A120
   clear A120
   by_cases c13 : t278.size + t284.size ≤ 9223372036854775807
   ·rw [if_pos c13] at H
    have c13b0:=eq_true c13
    have c13b1 : decide (t278.size + t284.size ≤ 9223372036854775807) = true:=decide_eq_true c13
    try have c13b2 : (9223372036854775807 < t278.size + t284.size) = False:=eq_false (Nat.not_lt.2 c13)
    have H':=Aside0.mk H
    clear H
    go_wp2_with (first | ((with_reducible refine gate_dst (N:=15) rfl ?_);refine Kd.R_lit Kd.string _ 9 ?hg (N:=15) ?hd (xs:=([(⟨#[32]⟩ : ByteArray),(⟨#[32,49]⟩ : ByteArray),(⟨#[48]⟩ : ByteArray),(⟨#[32,120]⟩ : ByteArray)] : List ByteArray)) (inner:=[.string (⟨#[32]⟩ : ByteArray),.string (⟨#[32,49]⟩ : ByteArray),.string (⟨#[48]⟩ : ByteArray),.string (⟨#[32,120]⟩ : ByteArray)]) (ok:=fun _ => True) (okp:=fun _ => True) ?hr ?hp (fun _ hk => hk) trivial (Below.refl _ _) (Nat.le_refl _) (by simp) ?_;(case hd => rfl);(case hg => rfl);(case hr => first | (go_simp;done) | (go_simp;rfl));(case hp => exact (Reps.one (show Kd.M Kd.string _ _ _ (⟨#[32]⟩ : ByteArray) [.string (⟨#[32]⟩ : ByteArray)] from rfl) (Reps.one (show Kd.M Kd.string _ _ _ (⟨#[32,49]⟩ : ByteArray) [.string (⟨#[32,49]⟩ : ByteArray)] from rfl) (Reps.one (show Kd.M Kd.string _ _ _ (⟨#[48]⟩ : ByteArray) [.string (⟨#[48]⟩ : ByteArray)] from rfl) (Reps.one (show Kd.M Kd.string _ _ _ (⟨#[32,120]⟩ : ByteArray) [.string (⟨#[32,120]⟩ : ByteArray)] from rfl) (Reps.none _ _))))));intro v282 w14 ho15 hb hg_ hnew_;clear hg_ hnew_;(first | rw [← Ny281.out] at ho15 | (simp only [Int.reduceToNat] at ho15;rw [← Ny281.out] at ho15));have n0_:=Aside0.mk (Kd.R_lower ho15 (below_size (by repeat (first | (with_reducible first | exact HB.out | apply below_alloc | apply pw_below_drewN | apply below_drew1 | refine below_set ?_ (IsS70.ge HI273.out)) | exact HB.out))));have n1_:=Aside0.mk (IsS70.below (by repeat (first | (with_reducible first | exact HI273.out | apply IsS70.alloc | apply IsS70.drewN | apply IsS70.drew | apply IsS70.set_1) | exact HI273.out)) hb);have n2_:=Aside0.mk (below_step (by repeat (first | (with_reducible first | exact HB.out | apply below_alloc | apply pw_below_drewN | apply below_drew1 | refine below_set ?_ (IsS70.ge HI273.out)) | exact HB.out)) hb);clear HI273 HB;have HO283:=n0_;have HI273:=n1_;have HB:=n2_;clear n0_ n1_ n2_ hb ho15;obtain ⟨Ao16,co16,eo16⟩:=Kd.R_slice HO283.out;subst eo16) | ((with_reducible refine gate_callee (f:=44) rfl ?_);refine Up.gl (some 16) Tryd.func44 #[.pointer (some ⟨g273,0,none⟩),.slice Ao16 y281.length co16] ?_;(with_reducible refine (spec_l6Rd_of.calls k g273 t271 t280 _ _ y281 t284 t285 w _ ?side1 ?side2 ?side3 ?side4 ?side5 A12.out).mono ?_);(case side1 => repeat (first | (with_reducible first | exact HI273.out | apply IsS70.alloc | apply IsS70.drewN | apply IsS70.drew | apply IsS70.set_1) | exact HI273.out));(case side2 => repeat (first | (with_reducible first | exact HB.out | apply below_alloc | apply pw_below_drewN | apply below_drew1 | refine below_set ?_ (IsS70.ge HI273.out)) | exact HB.out));(case side3 => repeat (first | exact (Kd.R_reads' HO283.out).2.2 | (with_reducible refine Kd.C_alloc ?_ _) | (with_reducible refine Kd.C_drewN ?_ _) | (with_reducible refine Kd.C_drew ?_)));(case side4 => exact (Kd.R_reads' HO283.out).2.1);(case side5 => exact far_slice (IsS70.own_ne HI273.out HO283.out (by decide)));rintro e w17 ⟨rfl,hi,hb,hk⟩;refine ⟨_,rfl,?_⟩;have n0_:=Aside0.mk (Kd.R_mono (Kd.R_keep (IsS70.apart (show IsS70 w _ g273 t271 t280 from by repeat (first | (with_reducible first | exact HI273.out | apply IsS70.alloc | apply IsS70.drewN | apply IsS70.drew | apply IsS70.set_1) | exact HI273.out)) (Up.Rup HO283) (by decide)) hk (fun _ h => h.2)) (fun _ h => h.1));have n1_:=Aside0.mk (hb);have n2_:=Aside0.mk (hi);clear HO283 HB HI273;have HO283:=n0_;have HB:=n1_;have HI273:=n2_;clear n0_ n1_ n2_;(try clear hb);(try clear hb2);(try clear hk);(try clear hi)))
    go_meet
    case rel => exact ⟨_,(t278 ++ t284),(t285),(by first | rfl | (simp;done) | (simp [*];done)),H',⟨by first | omega | exact Nat.le_refl _⟩,⟨by repeat (first | (with_reducible first | exact HI273.out | apply IsS70.alloc | apply IsS70.drewN | apply IsS70.drew | apply IsS70.set_1) | exact HI273.out)⟩,⟨by repeat (first | (with_reducible first | exact HB.out | apply below_alloc | apply pw_below_drewN | apply below_drew1 | refine below_set ?_ (IsS70.ge HI273.out)) | exact HB.out)⟩⟩
   ·rw [if_neg c13] at H
    exact absurd H (by simp)
  ·rw [if_neg c11] at H
   have c11b0 : (t279 == 0) = false:=beq_eq_false_iff_ne.mpr c11
   have c11b1 : (t279 != 0) = true:=bne_iff_ne.mpr c11
   (first | rw [c11b0] | (simp only [i64_w,i32_w];rw [c11b0]) | skip)
   have H':=Aside0.mk H
   clear H
   go_wp2
   go_meet
   case rel => exact ⟨_,(t278),(t280),(by first | rfl | (simp;done) | (simp [*];done)),H',⟨by first | omega | exact Nat.le_refl _⟩,⟨by repeat (first | (with_reducible first | exact HI273.out | apply IsS70.alloc | apply IsS70.drewN | apply IsS70.drew | apply IsS70.set_1) | exact HI273.out)⟩,⟨by repeat (first | (with_reducible first | exact HB.out | apply below_alloc | apply pw_below_drewN | apply below_drew1 | refine below_set ?_ (IsS70.ge HI273.out)) | exact HB.out)⟩⟩
 case rest =>
  clear HC6
  try clear c1
  try clear c2
  try clear p2
  try clear c4
  try clear c11
  try clear c11b0
  try clear c11b1
  try clear c13
  try clear c13b0
  try clear c13b1
  try clear c13b2
  obtain ⟨kq,x4_5,x274001_5,rfl,HA,HJ5,HI273,HB⟩:=hcut
  cases kq with
  | zero => exact absurd HA.out (by simp [spec_DrawInsRead.j0])
  | succ kj5 =>
   have H:=HA.out
   clear HA
   simp only [spec_DrawInsRead.j0] at H
   replace H:=Option.bind_eq_some_iff.mp H
   obtain ⟨⟨t286,t287⟩,A180,H⟩:=H
   replace H : (if t286 = 0 then ((spec_l6Rd_of.f kj5 t271 t287 (([(⟨#[]⟩ : ByteArray),(⟨#[110,117,109]⟩ : ByteArray),(⟨#[110,117,109,32,48,49]⟩ : ByteArray),(⟨#[110,117,109,32,49,48,48,48,48,48,49]⟩ : ByteArray),(⟨#[102,105,101,108,100,32,49]⟩ : ByteArray),(⟨#[99,97,108,108,32,48,32,48,32,48]⟩ : ByteArray),(⟨#[32,100,114,111,112]⟩ : ByteArray),(⟨#[110,117,109,32,45,49]⟩ : ByteArray)] : List ByteArray))).bind fun bt291 => (some bt291.1)) else (some x4_5)) = some r:=H
   have A18:=Aside0.mk A180
   clear A180
   by_cases c19 : t286 = 0
   ·rw [if_pos c19] at H
    have c19b0 : (t286 == 0) = true:=beq_iff_eq.mpr c19
    have c19b1 : (t286 != 0) = false:=bne_eq_false_iff_eq.mpr c19
    clear c19
    obtain ⟨y288,hy288⟩ : ∃ y_ : List ByteArray,y_ = (([(⟨#[]⟩ : ByteArray),(⟨#[110,117,109]⟩ : ByteArray),(⟨#[110,117,109,32,48,49]⟩ : ByteArray),(⟨#[110,117,109,32,49,48,48,48,48,48,49]⟩ : ByteArray),(⟨#[102,105,101,108,100,32,49]⟩ : ByteArray),(⟨#[99,97,108,108,32,48,32,48,32,48]⟩ : ByteArray),(⟨#[32,100,114,111,112]⟩ : ByteArray),(⟨#[110,117,109,32,45,49]⟩ : ByteArray)] : List ByteArray)):=⟨_,rfl⟩
    replace H : ((spec_l6Rd_of.f kj5 t271 t287 y288).bind fun bt291 => (some bt291.1)) = some r:=by first | (rw [hy288];with_reducible exact H) | (have H2_:=(Option.bind_some _ _).symm.trans H;rw [hy288];with_reducible exact H2_) | (have H2_:=(Option.bind_some _ _).symm.trans H;with_reducible exact H2_) | with_reducible exact H | (rw [hy288];exact H) | exact H
    have Ny288:=Aside0.mk hy288
    clear hy288
    replace H:=Option.bind_eq_some_iff.mp H
    obtain ⟨⟨t291,t292⟩,A200,H⟩:=H
    replace H : (some t291) = some r:=H
    have A20:=Aside0.mk A200
    clear A200
    obtain rfl:=Option.some.inj H
    go_wp2_with (first | ((with_reducible refine gate_callee (f:=42) rfl ?_);refine Up.gl (some 19) Tryd.func42 #[.pointer (some ⟨g273,0,none⟩),.int .i64 8] ?_;(with_reducible refine (spec_l6Rd_pick.calls kj5 g273 t271 x274001_5 8 t286 t287 w _ ?side1 ?side2 A18.out).mono ?_);(case side1 => repeat (first | (with_reducible first | exact HI273.out | apply IsS70.alloc | apply IsS70.drewN | apply IsS70.drew | apply IsS70.set_1) | exact HI273.out));(case side2 => repeat (first | (with_reducible first | exact HB.out | apply below_alloc | apply pw_below_drewN | apply below_drew1 | refine below_set ?_ (IsS70.ge HI273.out)) | exact HB.out));rintro e w21 ⟨rfl,hi,hb,hk⟩;refine ⟨_,rfl,?_⟩;have n0_:=Aside0.mk (hb);have n1_:=Aside0.mk (hi);clear HB HI273;have HB:=n0_;have HI273:=n1_;clear n0_ n1_;(try clear hb);(try clear hb2);(try clear hk);(try clear hi)) | ((with_reducible refine gate_dst (N:=22) rfl ?_);refine Kd.R_lit Kd.string _ 9 ?hg (N:=22) ?hd (xs:=([(⟨#[]⟩ : ByteArray),(⟨#[110,117,109]⟩ : ByteArray),(⟨#[110,117,109,32,48,49]⟩ : ByteArray),(⟨#[110,117,109,32,49,48,48,48,48,48,49]⟩ : ByteArray),(⟨#[102,105,101,108,100,32,49]⟩ : ByteArray),(⟨#[99,97,108,108,32,48,32,48,32,48]⟩ : ByteArray),(⟨#[32,100,114,111,112]⟩ : ByteArray),(⟨#[110,117,109,32,45,49]⟩ : ByteArray)] : List ByteArray)) (inner:=[.string (⟨#[]⟩ : ByteArray),.string (⟨#[110,117,109]⟩ : ByteArray),.string (⟨#[110,117,109,32,48,49]⟩ : ByteArray),.string (⟨#[110,117,109,32,49,48,48,48,48,48,49]⟩ : ByteArray),.string (⟨#[102,105,101,108,100,32,49]⟩ : ByteArray),.string (⟨#[99,97,108,108,32,48,32,48,32,48]⟩ : ByteArray),.string (⟨#[32,100,114,111,112]⟩ : ByteArray),.string (⟨#[110,117,109,32,45,49]⟩ : ByteArray)]) (ok:=fun _ => True) (okp:=fun _ => True) ?hr ?hp (fun _ hk => hk) trivial (Below.refl _ _) (Nat.le_refl _) (by simp) ?_;(case hd => rfl);(case hg => rfl);(case hr => first | (go_simp;done) | (go_simp;rfl));(case hp => exact (Reps.one (show Kd.M Kd.string _ _ _ (⟨#[]⟩ : ByteArray) [.string (⟨#[]⟩ : ByteArray)] from rfl) (Reps.one (show Kd.M Kd.string _ _ _ (⟨#[110,117,109]⟩ : ByteArray) [.string (⟨#[110,117,109]⟩ : ByteArray)] from rfl) (Reps.one (show Kd.M Kd.string _ _ _ (⟨#[110,117,109,32,48,49]⟩ : ByteArray) [.string (⟨#[110,117,109,32,48,49]⟩ : ByteArray)] from rfl) (Reps.one (show Kd.M Kd.string _ _ _ (⟨#[110,117,109,32,49,48,48,48,48,48,49]⟩ : ByteArray) [.string (⟨#[110,117,109,32,49,48,48,48,48,48,49]⟩ : ByteArray)] from rfl) (Reps.one (show Kd.M Kd.string _ _ _ (⟨#[102,105,101,108,100,32,49]⟩ : ByteArray) [.string (⟨#[102,105,101,108,100,32,49]⟩ : ByteArray)] from rfl) (Reps.one (show Kd.M Kd.string _ _ _ (⟨#[99,97,108,108,32,48,32,48,32,48]⟩ : ByteArray) [.string (⟨#[99,97,108,108,32,48,32,48,32,48]⟩ : ByteArray)] from rfl) (Reps.one (show Kd.M Kd.string _ _ _ (⟨#[32,100,114,111,112]⟩ : ByteArray) [.string (⟨#[32,100,114,111,112]⟩ : ByteArray)] from rfl) (Reps.one (show Kd.M Kd.string _ _ _ (⟨#[110,117,109,32,45,49]⟩ : ByteArray) [.string (⟨#[110,117,109,32,45,49]⟩ : ByteArray)] from rfl) (Reps.none _ _))))))))));intro v289 w22 ho23 hb hg_ hnew_;clear hg_ hnew_;(first | rw [← Ny288.out] at ho23 | (simp only [Int.reduceToNat] at ho23;rw [← Ny288.out] at ho23));have n0_:=Aside0.mk (Kd.R_lower ho23 (below_size (by repeat (first | (with_reducible first | exact HB.out | apply below_alloc | apply pw_below_drewN | apply below_drew1 | refine below_set ?_ (IsS70.ge HI273.out)) | exact HB.out))));have n1_:=Aside0.mk (IsS70.below (by repeat (first | (with_reducible first | exact HI273.out | apply IsS70.alloc | apply IsS70.drewN | apply IsS70.drew | apply IsS70.set_1) | exact HI273.out)) hb);have n2_:=Aside0.mk (below_step (by repeat (first | (with_reducible first | exact HB.out | apply below_alloc | apply pw_below_drewN | apply below_drew1 | refine below_set ?_ (IsS70.ge HI273.out)) | exact HB.out)) hb);clear HI273 HB;have HO290:=n0_;have HI273:=n1_;have HB:=n2_;clear n0_ n1_ n2_ hb ho23;obtain ⟨Ao24,co24,eo24⟩:=Kd.R_slice HO290.out;subst eo24) | ((with_reducible refine gate_callee (f:=44) rfl ?_);refine Up.gl (some 23) Tryd.func44 #[.pointer (some ⟨g273,0,none⟩),.slice Ao24 y288.length co24] ?_;(with_reducible refine (spec_l6Rd_of.calls kj5 g273 t271 t287 _ _ y288 t291 t292 w _ ?side1 ?side2 ?side3 ?side4 ?side5 A20.out).mono ?_);(case side1 => repeat (first | (with_reducible first | exact HI273.out | apply IsS70.alloc | apply IsS70.drewN | apply IsS70.drew | apply IsS70.set_1) | exact HI273.out));(case side2 => repeat (first | (with_reducible first | exact HB.out | apply below_alloc | apply pw_below_drewN | apply below_drew1 | refine below_set ?_ (IsS70.ge HI273.out)) | exact HB.out));(case side3 => repeat (first | exact (Kd.R_reads' HO290.out).2.2 | (with_reducible refine Kd.C_alloc ?_ _) | (with_reducible refine Kd.C_drewN ?_ _) | (with_reducible refine Kd.C_drew ?_)));(case side4 => exact (Kd.R_reads' HO290.out).2.1);(case side5 => exact far_slice (IsS70.own_ne HI273.out HO290.out (by decide)));rintro e w25 ⟨rfl,hi,hb,hk⟩;refine ⟨_,rfl,?_⟩;have n0_:=Aside0.mk (Kd.R_mono (Kd.R_keep (IsS70.apart (show IsS70 w _ g273 t271 t287 from by repeat (first | (with_reducible first | exact HI273.out | apply IsS70.alloc | apply IsS70.drewN | apply IsS70.drew | apply IsS70.set_1) | exact HI273.out)) (Up.Rup HO290) (by decide)) hk (fun _ h => h.2)) (fun _ h => h.1));have n1_:=Aside0.mk (hb);have n2_:=Aside0.mk (hi);clear HO290 HB HI273;have HO290:=n0_;have HB:=n1_;have HI273:=n2_;clear n0_ n1_ n2_;(try clear hb);(try clear hb2);(try clear hk);(try clear hi)))
    go_ret
    exact ⟨by first | rfl | (simp [errW_none,errW_some] <;> rfl) | (simp [*,errW_none,errW_some] <;> rfl),by repeat (first | (with_reducible first | exact HB.out | apply below_alloc | apply pw_below_drewN | apply below_drew1 | refine below_set ?_ (IsS70.ge HI273.out)) | exact HB.out)⟩
   ·rw [if_neg c19] at H
    have c19b0 : (t286 == 0) = false:=beq_eq_false_iff_ne.mpr c19
    have c19b1 : (t286 != 0) = true:=bne_iff_ne.mpr c19
    obtain rfl:=Option.some.inj H
    go_wp2_with (first | ((with_reducible refine gate_callee (f:=42) rfl ?_);refine Up.gl (some 19) Tryd.func42 #[.pointer (some ⟨g273,0,none⟩),.int .i64 8] ?_;(with_reducible refine (spec_l6Rd_pick.calls kj5 g273 t271 x274001_5 8 t286 t287 w _ ?side1 ?side2 A18.out).mono ?_);(case side1 => repeat (first | (with_reducible first | exact HI273.out | apply IsS70.alloc | apply IsS70.drewN | apply IsS70.drew | apply IsS70.set_1) | exact HI273.out));(case side2 => repeat (first | (with_reducible first | exact HB.out | apply below_alloc | apply pw_below_drewN | apply below_drew1 | refine below_set ?_ (IsS70.ge HI273.out)) | exact HB.out));rintro e w26 ⟨rfl,hi,hb,hk⟩;refine ⟨_,rfl,?_⟩;have n0_:=Aside0.mk (hb);have n1_:=Aside0.mk (hi);clear HB HI273;have HB:=n0_;have HI273:=n1_;clear n0_ n1_;(try clear hb);(try clear hb2);(try clear hk);(try clear hi)))
    go_ret
    exact ⟨by first | rfl | (simp [errW_none,errW_some] <;> rfl) | (simp [*,errW_none,errW_some] <;> rfl),by repeat (first | (with_reducible first | exact HB.out | apply below_alloc | apply pw_below_drewN | apply below_drew1 | refine below_set ?_ (IsS70.ge HI273.out)) | exact HB.out)⟩

/-! ### laws_FnInsRead: function 10 -/
def laws_FnInsRead.j0 : Nat → ByteArray → Bool → Bool → ByteArray → Int → Int → Option (Bool)
 | 0,_,_,_,_,_,_ => none
 | k + 1,x3,x5,x30,x299000,x299001,x299002 => if x30 = true then (some false) else (if x5 = true then ((impl_InsOk.f k x299000 x299001 x299002).bind fun t304 => (if t304 = true then ((impl_InsText.f k x299000 x299001 x299002).bind fun t305 => (some (t305.toList == x3.toList))) else (some false))) else (some true))
def laws_FnInsRead.f (k : Nat) (l0 : List Int) : Option (Bool):=if (l0.length : Int) > 1048576 then (some true) else ((spec_DrawInsRead.f k l0).bind fun t293 => ((impl_InsRead.f k t293).bind fun bt294 => ((spec_InsRead.f k t293).bind fun bt299 => (if (!(bt294.1.toList == bt299.1.toList) || (!(bt294.2.1 == bt299.2.1) || (!(bt294.2.2.1 == bt299.2.2.1)))) = true then (laws_FnInsRead.j0 k t293 bt294.2.2.2 true bt294.1 bt294.2.1 bt294.2.2.1) else (laws_FnInsRead.j0 k t293 bt294.2.2.2 (bt294.2.2.2 != bt299.2.2.2) bt294.1 bt294.2.1 bt294.2.2.1)))))
theorem laws_FnInsRead.mono_l : ∀ k,(∀ y0 y1 y2 y3 y4 y5,LeO (laws_FnInsRead.j0 k y0 y1 y2 y3 y4 y5) (laws_FnInsRead.j0 (k + 1) y0 y1 y2 y3 y4 y5))
 | 0 => fun _ _ _ _ _ _ r h => by simp [laws_FnInsRead.j0] at h
 | k + 1 => by
  have ih0:=laws_FnInsRead.mono_l k
  ·intro y0 y1 y2 y3 y4 y5
   unfold laws_FnInsRead.j0
   repeat' first
   | (with_reducible exact ih0 _ _ _ _ _ _)
   | (with_reducible exact impl_InsOk.mono _ _ _ _)
   | (with_reducible exact impl_InsRead.mono _ _)
   | (with_reducible exact impl_InsText.mono _ _ _ _)
   | (with_reducible exact spec_DrawInsRead.mono _ _)
   | (with_reducible exact spec_InsRead.mono _ _)
   | (with_reducible exact LeO.refl _)
   | (with_reducible exact LeO.none _)
   | (with_reducible refine LeO.ite ?_ ?_)
   | (with_reducible refine LeO.bind ?_ (fun _ => ?_))
   | exact ih0 _ _ _ _ _ _
   | exact impl_InsOk.mono _ _ _ _
   | exact impl_InsRead.mono _ _
   | exact impl_InsText.mono _ _ _ _
   | exact spec_DrawInsRead.mono _ _
   | exact spec_InsRead.mono _ _
   | exact LeO.none _
   | refine LeO.ite ?_ ?_
   | refine LeO.bind ?_ (fun _ => ?_)
theorem laws_FnInsRead.mono : ∀ a0 k,LeO (laws_FnInsRead.f k a0) (laws_FnInsRead.f (k + 1) a0):=by
 intro a0 k
 have ih0:=laws_FnInsRead.mono_l k
 unfold laws_FnInsRead.f
 repeat' first
   | (with_reducible exact ih0 _ _ _ _ _ _)
   | (with_reducible exact impl_InsOk.mono _ _ _ _)
   | (with_reducible exact impl_InsRead.mono _ _)
   | (with_reducible exact impl_InsText.mono _ _ _ _)
   | (with_reducible exact spec_DrawInsRead.mono _ _)
   | (with_reducible exact spec_InsRead.mono _ _)
   | (with_reducible exact LeO.refl _)
   | (with_reducible exact LeO.none _)
   | (with_reducible refine LeO.ite ?_ ?_)
   | (with_reducible refine LeO.bind ?_ (fun _ => ?_))
   | exact ih0 _ _ _ _ _ _
   | exact impl_InsOk.mono _ _ _ _
   | exact impl_InsRead.mono _ _
   | exact impl_InsText.mono _ _ _ _
   | exact spec_DrawInsRead.mono _ _
   | exact spec_InsRead.mono _ _
   | exact LeO.none _
   | refine LeO.ite ?_ ?_
   | refine LeO.bind ?_ (fun _ => ?_)
set_option maxHeartbeats 8000000 in
set_option maxRecDepth 100000 in
theorem laws_FnInsRead.calls (k : Nat) (A0 : Option Addr) (c0 : Nat) (l0 : List Int) (r : Bool) (w : World) (hT_ : Tab w) (hr0 : Kd.C (Kd.int .u8) w A0 l0.length l0) (hc0 : l0.length ≤ c0) (h : laws_FnInsRead.f k l0 = some r) :
  Calls Tryd.prog 10 #[.slice A0 l0.length c0] w fun e w' => e = .returned (.bool r) ∧ Below w.heap.size w w':=by
 have hu26:=Tryd.underlying26
 have HR0:=Aside0.mk hr0
 have HC0:=Aside0.mk hc0
 clear hr0 hc0
 have HB:=Aside0.mk (Below.refl w.heap.size w)
 have H : (if (l0.length : Int) > 1048576 then (some true) else ((spec_DrawInsRead.f k l0).bind fun t293 => ((impl_InsRead.f k t293).bind fun bt294 => ((spec_InsRead.f k t293).bind fun bt299 => (if (!(bt294.1.toList == bt299.1.toList) || (!(bt294.2.1 == bt299.2.1) || (!(bt294.2.2.1 == bt299.2.2.1)))) = true then (laws_FnInsRead.j0 k t293 bt294.2.2.2 true bt294.1 bt294.2.1 bt294.2.2.1) else (laws_FnInsRead.j0 k t293 bt294.2.2.2 (bt294.2.2.2 != bt299.2.2.2) bt294.1 bt294.2.1 bt294.2.2.1)))))) = some r:=h
 clear h
 by_cases c2 : (l0.length : Int) > 1048576
 ·rw [if_pos c2] at H
  have c2b0 : decide (1048576 < (l0.length : Int)) = true:=decide_eq_true c2
  have c2b1 : decide (1048576 < l0.length) = true:=decide_eq_true (by omega)
  clear c2
  obtain rfl:=Option.some.inj H
  go_enter Tryd.func10,Tryd.ntmps10
  go_wp2
  go_ret
  exact Up.e1 (Up.Bup HB)
 ·rw [if_neg c2] at H
  have c2b0 : decide (1048576 < (l0.length : Int)) = false:=decide_eq_false c2
  have c2b1 : decide (1048576 < l0.length) = false:=decide_eq_false (by omega)
  clear c2
  replace H:=Option.bind_eq_some_iff.mp H
  obtain ⟨t293,A30,H⟩:=H
  replace H : ((impl_InsRead.f k t293).bind fun bt294 => ((spec_InsRead.f k t293).bind fun bt299 => (if (!(bt294.1.toList == bt299.1.toList) || (!(bt294.2.1 == bt299.2.1) || (!(bt294.2.2.1 == bt299.2.2.1)))) = true then (laws_FnInsRead.j0 k t293 bt294.2.2.2 true bt294.1 bt294.2.1 bt294.2.2.1) else (laws_FnInsRead.j0 k t293 bt294.2.2.2 (bt294.2.2.2 != bt299.2.2.2) bt294.1 bt294.2.1 bt294.2.2.1)))) = some r:=H
  have A3:=Aside0.mk A30
  clear A30
  replace H:=Option.bind_eq_some_iff.mp H
  obtain ⟨⟨t294,t295,t296,t297⟩,A40,H⟩:=H
  replace H : ((spec_InsRead.f k t293).bind fun bt299 => (if (!(t294.toList == bt299.1.toList) || (!(t295 == bt299.2.1) || (!(t296 == bt299.2.2.1)))) = true then (laws_FnInsRead.j0 k t293 t297 true t294 t295 t296) else (laws_FnInsRead.j0 k t293 t297 (t297 != bt299.2.2.2) t294 t295 t296))) = some r:=H
  have A4:=Aside0.mk A40
  clear A40
  replace H:=Option.bind_eq_some_iff.mp H
  obtain ⟨⟨t299,t300,t301,t302⟩,A50,H⟩:=H
  replace H : (if (!(t294.toList == t299.toList) || (!(t295 == t300) || (!(t296 == t301)))) = true then (laws_FnInsRead.j0 k t293 t297 true t294 t295 t296) else (laws_FnInsRead.j0 k t293 t297 (t297 != t302) t294 t295 t296)) = some r:=H
  have A5:=Aside0.mk A50
  clear A50
  have HC6:=Aside0.mk H
  clear H
  go_enter Tryd.func10,Tryd.ntmps10
  go_upto_region 6 with (first | ((with_reducible refine gate_callee (f:=29) rfl ?_);refine Up.gl (some 12) Tryd.func29 #[.slice A0 l0.length c0] ?_;(with_reducible refine (spec_DrawInsRead.calls k _ _ l0 t293 _ ?side1 ?side2 A3.out).mono ?_);(case side1 => repeat (first | exact HR0.out | (with_reducible refine Kd.C_alloc ?_ _) | (with_reducible refine Kd.C_drewN ?_ _) | (with_reducible refine Kd.C_drew ?_)));(case side2 => exact HC0.out);rintro e w7 ⟨rfl,hb⟩;refine ⟨_,rfl,?_⟩;have n0_:=Up.BB HB hb;clear HB;have HB:=n0_;clear n0_;(try clear hb);(try clear hb2);(try clear hk);(try clear hi)) | ((with_reducible refine gate_callee (f:=26) rfl ?_);refine Up.gl (some 15) Tryd.func26 #[.string t293] ?_;(with_reducible refine (impl_InsRead.calls (hT_:=?tab1) k t293 t294 t295 t296 t297 _ A4.out).mono ?_);(case tab1 => exact hT_.below (Up.Bx HB));rintro e w8 ⟨rfl,hb⟩;refine ⟨_,rfl,?_⟩;have n0_:=Up.BB HB hb;clear HB;have HB:=n0_;clear n0_;(try clear hb);(try clear hb2);(try clear hk);(try clear hi)) | ((with_reducible refine gate_dst (N:=4) rfl ?_);refine Up.bx 4 26 #[.string (⟨#[]⟩ : ByteArray),.int .i64 0,.int .i64 0] ?_;intro gb298 hg w9 hbox hb;have n0_:=Up.BB HB hb;have n1_:=Aside0.mk (hbox);have n2_:=Up.gw hg HB;have n3_:=Up.gw hg HB;clear HB;have HB:=n0_;have BK298:=n1_;have GW298:=n2_;have GE298:=n3_;clear n0_ n1_ n2_ n3_ hb hbox hg;have hcz10_0:=Up.c0 BK298;have hcz10_1:=Up.c1 BK298;have hcz10_2:=Up.c2 BK298;have hfz10_0:=blk_frozen BK298.out 0;have hfz10_1:=blk_frozen BK298.out 1;have hfz10_2:=blk_frozen BK298.out 2) | ((with_reducible refine gate_callee (f:=25) rfl ?_);refine Up.gl (some 20) Tryd.func25 #[.string t293] ?_;(with_reducible refine (spec_InsRead.calls k t293 t299 t300 t301 t302 _ A5.out).mono ?_);rintro e w11 ⟨rfl,hb⟩;refine ⟨_,rfl,?_⟩;have n0_:=Aside0.mk (blk_below (g:=gb298) (o:=.cells #[.string t294,.int .i64 t295,.int .i64 t296] 26 (0,0)) (Up.Kx BK298) hb);have n1_:=Aside0.mk (below_step (Up.Bx HB) hb);clear BK298 HB;have BK298:=n0_;have HB:=n1_;clear n0_ n1_;(try clear hb);(try clear hb2);(try clear hk);(try clear hi)) | ((with_reducible refine gate_dst (N:=6) rfl ?_);refine Up.bx 6 26 #[.string (⟨#[]⟩ : ByteArray),.int .i64 0,.int .i64 0] ?_;intro gb303 hg w12 hbox hb;have n0_:=Up.KB BK298 hb;have n1_:=Aside0.mk (below_step (Up.Bx HB) hb);have n2_:=Aside0.mk (hbox);have n3_:=Up.gw hg HB;have n4_:=Up.gw hg HB;have n5_:=Up.nl hg BK298;have n6_:=Up.ng hg BK298;clear BK298 HB;have BK298:=n0_;have HB:=n1_;have BK303:=n2_;have GW303:=n3_;have GE303:=n4_;have NB298_303:=n5_;have NB303_298:=n6_;clear n0_ n1_ n2_ n3_ n4_ n5_ n6_ hb hbox hg;have hnb13:=NB303_298.out;have hnc13:=NB298_303.out;have hcz14_0:=Up.c0 BK303;have hcz14_1:=Up.c1 BK303;have hcz14_2:=Up.c2 BK303;have hfz14_0:=blk_frozen BK303.out 0;have hfz14_1:=blk_frozen BK303.out 1;have hfz14_2:=blk_frozen BK303.out 2))
  (try simp only [Act.put,List.setIfInBounds_toArray,List.set_cons_zero,List.set_cons_succ])
  go_cut [30] (fun v30 wc => ∃ (kq : Nat) (x30_5 : Bool),v30 = .bool x30_5 ∧ Aside0 (laws_FnInsRead.j0 kq t293 t297 x30_5 t294 t295 t296 = some r) ∧ Aside0 (kq ≤ k) ∧ Aside0 (wc.heap[gb298]? = some (.cells #[.string t294,.int .i64 t295,.int .i64 t296] 26 (0,0))) ∧ Aside0 (wc.heap[gb303]? = some (.cells #[.string t299,.int .i64 t300,.int .i64 t301] 26 (0,0))) ∧ Aside0 (Below w.heap.size w wc))
  case first =>
   have H:=HC6.out
   clear HC6
   by_cases c15 : (!(t294.toList == t299.toList) || (!(t295 == t300) || (!(t296 == t301)))) = true
   ·rw [if_pos c15] at H
    have c15b0 : (!(t294.toList == t299.toList) || (!(t295 == t300) || (!(t296 == t301)))) = true:=c15
    clear c15
    (first | rw [c15b0] | (simp only [i64_w,i32_w];rw [c15b0]) | skip)
    have H':=Aside0.mk H
    clear H
    have hnb16:=NB298_303.out
    have hnc16:=NB303_298.out
    have hcz17_0:=Up.c0 BK298
    have hcz17_1:=Up.c1 BK298
    have hcz17_2:=Up.c2 BK298
    have hfz17_0:=blk_frozen BK298.out 0
    have hfz17_1:=blk_frozen BK298.out 1
    have hfz17_2:=blk_frozen BK298.out 2
    have hcz18_0:=Up.c0 BK303
    have hcz18_1:=Up.c1 BK303
    have hcz18_2:=Up.c2 BK303
    have hfz18_0:=blk_frozen BK303.out 0
    have hfz18_1:=blk_frozen BK303.out 1
    have hfz18_2:=blk_frozen BK303.out 2
    go_wp2
    go_meet
    case rel => exact ⟨_,(true),(by first | rfl | (simp;done) | (simp [*];done)),H',⟨by first | omega | exact Nat.le_refl _⟩,⟨by (with_reducible repeat (first | refine blk_drewN ?_ _ | refine blk_drew ?_ | refine blk_alloc ?_ _));refine blk_far ?_ NB298_303.out _;(with_reducible repeat (first | refine blk_drewN ?_ _ | refine blk_drew ?_ | refine blk_alloc ?_ _));refine blk_far ?_ NB298_303.out _;(with_reducible repeat (first | refine blk_drewN ?_ _ | refine blk_drew ?_ | refine blk_alloc ?_ _));refine blk_far ?_ NB298_303.out _;(with_reducible repeat (first | refine blk_drewN ?_ _ | refine blk_drew ?_ | refine blk_alloc ?_ _));exact BK298.out⟩,⟨by (with_reducible repeat (first | refine blk_drewN ?_ _ | refine blk_drew ?_ | refine blk_alloc ?_ _));refine blk_put (cs:=#[.string t299,.int .i64 t300,.int .i64 0]) ?_ 2 _ rfl;(with_reducible repeat (first | refine blk_drewN ?_ _ | refine blk_drew ?_ | refine blk_alloc ?_ _));refine blk_put (cs:=#[.string t299,.int .i64 0,.int .i64 0]) ?_ 1 _ rfl;(with_reducible repeat (first | refine blk_drewN ?_ _ | refine blk_drew ?_ | refine blk_alloc ?_ _));refine blk_put (cs:=#[.string (⟨#[]⟩ : ByteArray),.int .i64 0,.int .i64 0]) ?_ 0 _ rfl;(with_reducible repeat (first | refine blk_drewN ?_ _ | refine blk_drew ?_ | refine blk_alloc ?_ _));exact BK303.out⟩,⟨Up.Bx HB⟩⟩
   ·rw [if_neg c15] at H
    have c15b0 : (!(t294.toList == t299.toList) || (!(t295 == t300) || (!(t296 == t301)))) = false:=by simpa using c15
    clear c15
    (first | rw [c15b0] | (simp only [i64_w,i32_w];rw [c15b0]) | skip)
    have H':=Aside0.mk H
    clear H
    have hnb19:=NB298_303.out
    have hnc19:=NB303_298.out
    have hcz20_0:=Up.c0 BK298
    have hcz20_1:=Up.c1 BK298
    have hcz20_2:=Up.c2 BK298
    have hfz20_0:=blk_frozen BK298.out 0
    have hfz20_1:=blk_frozen BK298.out 1
    have hfz20_2:=blk_frozen BK298.out 2
    have hcz21_0:=Up.c0 BK303
    have hcz21_1:=Up.c1 BK303
    have hcz21_2:=Up.c2 BK303
    have hfz21_0:=blk_frozen BK303.out 0
    have hfz21_1:=blk_frozen BK303.out 1
    have hfz21_2:=blk_frozen BK303.out 2
    go_wp2
    go_meet
    case rel => exact ⟨_,((t297 != t302)),(by first | rfl | (simp;done) | (simp [*];done)),H',⟨by first | omega | exact Nat.le_refl _⟩,⟨by (with_reducible repeat (first | refine blk_drewN ?_ _ | refine blk_drew ?_ | refine blk_alloc ?_ _));refine blk_far ?_ NB298_303.out _;(with_reducible repeat (first | refine blk_drewN ?_ _ | refine blk_drew ?_ | refine blk_alloc ?_ _));refine blk_far ?_ NB298_303.out _;(with_reducible repeat (first | refine blk_drewN ?_ _ | refine blk_drew ?_ | refine blk_alloc ?_ _));refine blk_far ?_ NB298_303.out _;(with_reducible repeat (first | refine blk_drewN ?_ _ | refine blk_drew ?_ | refine blk_alloc ?_ _));exact BK298.out⟩,⟨by (with_reducible repeat (first | refine blk_drewN ?_ _ | refine blk_drew ?_ | refine blk_alloc ?_ _));refine blk_put (cs:=#[.string t299,.int .i64 t300,.int .i64 0]) ?_ 2 _ rfl;(with_reducible repeat (first | refine blk_drewN ?_ _ | refine blk_drew ?_ | refine blk_alloc ?_ _));refine blk_put (cs:=#[.string t299,.int .i64 0,.int .i64 0]) ?_ 1 _ rfl;(with_reducible repeat (first | refine blk_drewN ?_ _ | refine blk_drew ?_ | refine blk_alloc ?_ _));refine blk_put (cs:=#[.string (⟨#[]⟩ : ByteArray),.int .i64 0,.int .i64 0]) ?_ 0 _ rfl;(with_reducible repeat (first | refine blk_drewN ?_ _ | refine blk_drew ?_ | refine blk_alloc ?_ _));exact BK303.out⟩,⟨Up.Bx HB⟩⟩
  case rest =>
   clear HC6
   try clear c1
   try clear c2
   try clear c2b0
   try clear c2b1
   try clear p2
   try clear c10
   try clear c13
   try clear c15
   try clear c15b0
   try clear c16
   try clear c19
   try clear hcz10_0
   try clear hcz10_1
   try clear hcz10_2
   try clear hcz14_0
   try clear hcz14_1
   try clear hcz14_2
   try clear hcz17_0
   try clear hcz17_1
   try clear hcz17_2
   try clear hcz18_0
   try clear hcz18_1
   try clear hcz18_2
   try clear hcz20_0
   try clear hcz20_1
   try clear hcz20_2
   try clear hcz21_0
   try clear hcz21_1
   try clear hcz21_2
   try clear hfz10_0
   try clear hfz10_1
   try clear hfz10_2
   try clear hfz14_0
   try clear hfz14_1
   try clear hfz14_2
   try clear hfz17_0
   try clear hfz17_1
   try clear hfz17_2
   try clear hfz18_0
   try clear hfz18_1
   try clear hfz18_2
   try clear hfz20_0
   try clear hfz20_1
   try clear hfz20_2
   try clear hfz21_0
   try clear hfz21_1
   try clear hfz21_2
   obtain ⟨kq,x30_5,rfl,HA,HJ5,BK298,BK303,HB⟩:=hcut
   cases kq with
   | zero => exact absurd HA.out (by simp [laws_FnInsRead.j0])
   | succ kj5 =>
    have H:=HA.out
    clear HA
    simp only [laws_FnInsRead.j0] at H
    by_cases c22 : x30_5 = true
    ·subst c22
     have H1 : (some false) = some r:=by rw [if_pos rfl] at H;exact H
     clear H
     have H:=H1
     clear H1
     obtain rfl:=Option.some.inj H
     go_wp2
     go_ret
     exact Up.e1 (Up.Bx HB)
    ·replace c22:=Bool.eq_false_iff.mpr c22
     subst c22
     have H1 : (if t297 = true then ((impl_InsOk.f kj5 t294 t295 t296).bind fun t304 => (if t304 = true then ((impl_InsText.f kj5 t294 t295 t296).bind fun t305 => (some (t305.toList == t293.toList))) else (some false))) else (some true)) = some r:=by rw [if_neg (show ¬ (false = true) by decide)] at H;exact H
     clear H
     have H:=H1
     clear H1
     by_cases c23 : t297 = true
     ·subst c23
      have H1 : ((impl_InsOk.f kj5 t294 t295 t296).bind fun t304 => (if t304 = true then ((impl_InsText.f kj5 t294 t295 t296).bind fun t305 => (some (t305.toList == t293.toList))) else (some false))) = some r:=by rw [if_pos rfl] at H;exact H
      clear H
      have H:=H1
      clear H1
      replace H:=Option.bind_eq_some_iff.mp H
      obtain ⟨t304,A240,H⟩:=H
      replace H : (if t304 = true then ((impl_InsText.f kj5 t294 t295 t296).bind fun t305 => (some (t305.toList == t293.toList))) else (some false)) = some r:=H
      have A24:=Aside0.mk A240
      clear A240
      by_cases c25 : t304 = true
      ·subst c25
       have H1 : ((impl_InsText.f kj5 t294 t295 t296).bind fun t305 => (some (t305.toList == t293.toList))) = some r:=by rw [if_pos rfl] at H;exact H
       clear H
       have H:=H1
       clear H1
       replace H:=Option.bind_eq_some_iff.mp H
       obtain ⟨t305,A260,H⟩:=H
       replace H : (some (t305.toList == t293.toList)) = some r:=H
       have A26:=Aside0.mk A260
       clear A260
       obtain rfl:=Option.some.inj H
       have hnb27:=NB298_303.out
       have hnc27:=NB303_298.out
       have hcz28_0:=Up.c0 BK298
       have hcz28_1:=Up.c1 BK298
       have hcz28_2:=Up.c2 BK298
       have hfz28_0:=blk_frozen BK298.out 0
       have hfz28_1:=blk_frozen BK298.out 1
       have hfz28_2:=blk_frozen BK298.out 2
       go_wp2_with (first | (go_at_call 14;(with_reducible refine (impl_InsOk.calls (hT_:=?tab1) kj5 t294 t295 t296 true _ A24.out).mono ?_);(case tab1 => exact hT_.below (Up.Bx HB));rintro e w29 ⟨rfl,hb⟩;have n0_:=Up.KB BK298 hb;have n1_:=Up.KB BK303 hb;have n2_:=Aside0.mk (below_step (Up.Bx HB) hb);clear BK298 BK303 HB;have BK298:=n0_;have BK303:=n1_;have HB:=n2_;clear n0_ n1_ n2_;(try clear hb);(try clear hb2);(try clear hk);(try clear hi);have hcz30_0:=Up.c0 BK298;have hcz30_1:=Up.c1 BK298;have hcz30_2:=Up.c2 BK298;have hfz30_0:=blk_frozen BK298.out 0;have hfz30_1:=blk_frozen BK298.out 1;have hfz30_2:=blk_frozen BK298.out 2) | (go_at_call 23;(with_reducible refine (impl_InsText.calls (hT_:=?tab1) kj5 t294 t295 t296 t305 _ A26.out).mono ?_);(case tab1 => exact hT_.below (Up.Bx HB));rintro e w31 ⟨rfl,hb⟩;have n0_:=Up.KB BK298 hb;have n1_:=Up.KB BK303 hb;have n2_:=Aside0.mk (below_step (Up.Bx HB) hb);clear BK298 BK303 HB;have BK298:=n0_;have BK303:=n1_;have HB:=n2_;clear n0_ n1_ n2_;(try clear hb);(try clear hb2);(try clear hk);(try clear hi)))
       go_ret
       exact Up.e1 (Up.Bx HB)
      ·replace c25:=Bool.eq_false_iff.mpr c25
       subst c25
       have H1 : (some false) = some r:=by rw [if_neg (show ¬ (false = true) by decide)] at H;exact H
       clear H
       have H:=H1
       clear H1
       obtain rfl:=Option.some.inj H
       have hnb32:=NB298_303.out
       have hnc32:=NB303_298.out
       have hcz33_0:=Up.c0 BK298
       have hcz33_1:=Up.c1 BK298
       have hcz33_2:=Up.c2 BK298
       have hfz33_0:=blk_frozen BK298.out 0
       have hfz33_1:=blk_frozen BK298.out 1
       have hfz33_2:=blk_frozen BK298.out 2
       go_wp2_with (first | (go_at_call 14;(with_reducible refine (impl_InsOk.calls (hT_:=?tab1) kj5 t294 t295 t296 false _ A24.out).mono ?_);(case tab1 => exact hT_.below (Up.Bx HB));rintro e w34 ⟨rfl,hb⟩;have n0_:=Up.KB BK298 hb;have n1_:=Up.KB BK303 hb;have n2_:=Aside0.mk (below_step (Up.Bx HB) hb);clear BK298 BK303 HB;have BK298:=n0_;have BK303:=n1_;have HB:=n2_;clear n0_ n1_ n2_;(try clear hb);(try clear hb2);(try clear hk);(try clear hi)))
       go_ret
       exact Up.e1 (Up.Bx HB)
     ·replace c23:=Bool.eq_false_iff.mpr c23
      subst c23
      have H1 : (some true) = some r:=by rw [if_neg (show ¬ (false = true) by decide)] at H;exact H
      clear H
      have H:=H1
      clear H1
      obtain rfl:=Option.some.inj H
      go_wp2
      go_ret
      exact Up.e1 (Up.Bx HB)

/-- THE ONE PURE STATEMENT of laws_FnInsRead: yours. -/
def laws_FnInsRead.Pure : Prop:=∀ (l0 : List Int),l0.length ≤ maxLen → l0.length * 1 ≤ 140737488351232 → (∀ x ∈ l0,(Lit.int .u8 x).wf = true) → ∃ k,laws_FnInsRead.f k l0 = some true
theorem laws_FnInsRead.walk (P : laws_FnInsRead.Pure) (a0 : Option Addr) (len0 cap0 : Nat) (z0 : List Int) (w : World) (hT_ : Tab w) (w0 : (a0 = none ∧ len0 = 0 ∧ cap0 = 0 ∧ z0 = []) ∨ ∃ x,a0 = some x ∧ len0 ≤ cap0 ∧ cap0 ≤ maxLen ∧ z0.length = cap0 ∧ (∀ i,i < z0.length → w.cell? (x.add i) = some (.int .u8 (z0.getD i 0))) ∧ ∀ n ∈ z0,(Lit.int .u8 n).wf = true) (y0 : len0 * 1 ≤ 140737488351232) :
  Calls Tryd.prog 10 #[.slice a0 len0 cap0] w fun e w' => e = .returned (.bool true) ∧ Below w.heap.size w w':=by
 obtain ⟨l0,rfl,hr0,hm0,hw0,hc0⟩:=ReadsInt.ofRowC w0
 obtain ⟨k,h⟩:=P l0 hm0 y0 hw0
 refine (laws_FnInsRead.calls (hT_:=hT_) k _ _ l0 true w (Kd.C_of_reads (d:=(0 : Int)) (h1:=fun _ => rfl) hr0) hc0 h).mono ?_
 rintro e w' ⟨rfl,hd⟩
 exact ⟨rfl,hd⟩

end Go.Proofs.YtfkhjnmgaadomaaDoor.OFnInsRead
