-- Laid by a program of this session (wip/myprint.py): the kit's print of the functions, contracts of our own among them.
import Derived.Test.YtcdamcfklehedaaOFnExactFuncSeenx0
import Derived.Test.YtcdamcfklehedaaOFnExactFuncSeenx3
namespace Go.Proofs.Ytcdamcfklehedaa.OFnExactFuncSeen
open Go.RowKit Go.Proofs.YtcdamcfklehedaaW.PrintWords Go.Proofs.YtcdamcfklehedaaW.PrintLast Go.Proofs.YtcdamcfklehedaaW.PrintMore
attribute [local go_sem] max2_int min2_int max_two min_two max_three min_three max_four min_four   -- for this text's walks alone
set_option linter.unusedVariables false
set_option linter.unusedSimpArgs false

/-! ### impl_copyFunc: function 37 -/
def impl_copyFunc.f (a0_0 : Int) (l0_1 : List ByteArray) (l0_2 : List ByteArray) (l0_3 : List ByteArray) (l0_4 : List Int) (l0_5 : List (S83)) : Option (Int × List ByteArray × List ByteArray × List ByteArray × List Int × (List (S83))):=(some (([] : List (S83)) : List (S83))).bind fun y254 => (if y254.length + l0_5.length < 4398046511104 then ((impl_Ins.f (y254 ++ l0_5)).bind fun t260 => ((impl_copyTexts.f l0_1).bind fun t263 => ((impl_copyTexts.f l0_2).bind fun t266 => ((impl_copyTexts.f l0_3).bind fun t269 => ((impl_copyInts.f l0_4).bind fun t272 => (some (a0_0,t263,t266,t269,t272,t260))))))) else (none))
def impl_copyFunc.T2 : Bool × List (List Nat × List Nat):=(true,[([],[]),([0],[0]),([],[]),([2],[2]),([3],[3]),([],[]),([5],[5]),([6,4],[6]),([],[]),([8],[8]),([9,7],[9]),([],[]),([11],[11]),([12,10],[12]),([],[]),([1,4,7,10,13,14],[1,4,7,10,13,14]),([15,13,0,1,2,3,4,5,6,7,8,9,10,11,12,13,14,15],[15])])
def impl_copyFunc.B2 : List Nat:=[0,1,0,4,12,0,32,124,0,256,1020,0,2048,8188,0,32767,65535]
theorem impl_copyFunc.tab2 : rtab .any (opsOf Try.f37 2) = impl_copyFunc.T2:=by kernel_rfl
theorem impl_copyFunc.bits2 : waitsOk impl_copyFunc.T2.2 impl_copyFunc.B2 = true:=by kernel_rfl
set_option maxHeartbeats 8000000 in
set_option maxRecDepth 100000 in
theorem impl_copyFunc.calls (a0_0 : Int) (A0_1 : Option Addr) (c0_1 : Nat) (l0_1 : List ByteArray) (A0_2 : Option Addr) (c0_2 : Nat) (l0_2 : List ByteArray) (A0_3 : Option Addr) (c0_3 : Nat) (l0_3 : List ByteArray) (A0_4 : Option Addr) (c0_4 : Nat) (l0_4 : List Int) (A0_5 : Option Addr) (c0_5 : Nat) (l0_5 : List (S83)) (r1 : Int) (r2 : List ByteArray) (r3 : List ByteArray) (r4 : List ByteArray) (r5 : List Int) (r6 : List (S83)) (w : World) (hr0_1 : Kd.C Kd.string w A0_1 l0_1.length l0_1) (hc0_1 : l0_1.length ≤ c0_1) (hr0_2 : Kd.C Kd.string w A0_2 l0_2.length l0_2) (hc0_2 : l0_2.length ≤ c0_2) (hr0_3 : Kd.C Kd.string w A0_3 l0_3.length l0_3) (hc0_3 : l0_3.length ≤ c0_3) (hr0_4 : Kd.C (Kd.int .i64) w A0_4 l0_4.length l0_4) (hc0_4 : l0_4.length ≤ c0_4) (hr0_5 : Kd.C k83 w A0_5 l0_5.length l0_5) (hc0_5 : l0_5.length ≤ c0_5) (h : impl_copyFunc.f a0_0 l0_1 l0_2 l0_3 l0_4 l0_5 = some (r1,r2,r3,r4,r5,r6)) :
  Calls Try.prog 37 #[.agg #[.int .i64 a0_0,.slice A0_1 l0_1.length c0_1,.slice A0_2 l0_2.length c0_2,.slice A0_3 l0_3.length c0_3,.slice A0_4 l0_4.length c0_4,.slice A0_5 l0_5.length c0_5]] w fun e w' => ∃ v1_ v2_ v3_ v4_ v5_ : Value,e = .returned (.agg #[.int .i64 r1,v1_,v2_,v3_,v4_,v5_]) ∧ Kd.V Kd.string 9 w' w.heap.size (fun k_ => (w.heap.size ≤ k_)) v1_ r2 ∧ Kd.V Kd.string 9 w' w.heap.size (fun k_ => (w.heap.size ≤ k_)) v2_ r3 ∧ Kd.V Kd.string 9 w' w.heap.size (fun k_ => (w.heap.size ≤ k_)) v3_ r4 ∧ Kd.V (Kd.int .i64) 3 w' w.heap.size (fun k_ => (w.heap.size ≤ k_)) v4_ r5 ∧ Kd.V k83 83 w' w.heap.size (fun k_ => (w.heap.size ≤ k_)) v5_ r6 ∧ Below w.heap.size w w':=by
 have hu39:=Try.underlying39
 have HR0_1:=Aside0.mk hr0_1
 have HC0_1:=Aside0.mk hc0_1
 clear hr0_1 hc0_1
 have HR0_2:=Aside0.mk hr0_2
 have HC0_2:=Aside0.mk hc0_2
 clear hr0_2 hc0_2
 have HR0_3:=Aside0.mk hr0_3
 have HC0_3:=Aside0.mk hc0_3
 clear hr0_3 hc0_3
 have HR0_4:=Aside0.mk hr0_4
 have HC0_4:=Aside0.mk hc0_4
 clear hr0_4 hc0_4
 have HR0_5:=Aside0.mk hr0_5
 have HC0_5:=Aside0.mk hc0_5
 clear hr0_5 hc0_5
 have HB:=Aside0.mk (Below.refl w.heap.size w)
 have H : ((some (([] : List (S83)) : List (S83))).bind fun y254 => (if y254.length + l0_5.length < 4398046511104 then ((impl_Ins.f (y254 ++ l0_5)).bind fun t260 => ((impl_copyTexts.f l0_1).bind fun t263 => ((impl_copyTexts.f l0_2).bind fun t266 => ((impl_copyTexts.f l0_3).bind fun t269 => ((impl_copyInts.f l0_4).bind fun t272 => (some (a0_0,t263,t266,t269,t272,t260))))))) else (none))) = some (r1,r2,r3,r4,r5,r6):=h
 clear h
 obtain ⟨y254,hy254⟩ : ∃ y_ : List (S83),y_ = (([] : List (S83))):=⟨_,rfl⟩
 replace H : (if y254.length + l0_5.length < 4398046511104 then ((impl_Ins.f (y254 ++ l0_5)).bind fun t260 => ((impl_copyTexts.f l0_1).bind fun t263 => ((impl_copyTexts.f l0_2).bind fun t266 => ((impl_copyTexts.f l0_3).bind fun t269 => ((impl_copyInts.f l0_4).bind fun t272 => (some (a0_0,t263,t266,t269,t272,t260))))))) else (none)) = some (r1,r2,r3,r4,r5,r6):=by first | (rw [hy254];with_reducible exact H) | (have H2_:=(Option.bind_some _ _).symm.trans H;rw [hy254];with_reducible exact H2_) | (have H2_:=(Option.bind_some _ _).symm.trans H;with_reducible exact H2_) | with_reducible exact H | (rw [hy254];exact H) | exact H
 have Ny254:=Aside0.mk hy254
 clear hy254
 by_cases c2 : y254.length + l0_5.length < 4398046511104
 ·rw [if_pos c2] at H
  have LMc2:=Aside0.mk c2
  clear c2
  obtain ⟨y257,hy257⟩ : ∃ y_ : List (S83),y_ = (y254 ++ l0_5):=⟨_,rfl⟩
  replace H : ((impl_Ins.f y257).bind fun t260 => ((impl_copyTexts.f l0_1).bind fun t263 => ((impl_copyTexts.f l0_2).bind fun t266 => ((impl_copyTexts.f l0_3).bind fun t269 => ((impl_copyInts.f l0_4).bind fun t272 => (some (a0_0,t263,t266,t269,t272,t260))))))) = some (r1,r2,r3,r4,r5,r6):=by first | (rw [hy257];with_reducible exact H) | (have H2_:=(Option.bind_some _ _).symm.trans H;rw [hy257];with_reducible exact H2_) | (have H2_:=(Option.bind_some _ _).symm.trans H;with_reducible exact H2_) | with_reducible exact H | (rw [hy257];exact H) | exact H
  have Ny257:=Aside0.mk hy257
  clear hy257
  replace H:=Option.bind_eq_some_iff.mp H
  obtain ⟨t260,A30,H⟩:=H
  replace H : ((impl_copyTexts.f l0_1).bind fun t263 => ((impl_copyTexts.f l0_2).bind fun t266 => ((impl_copyTexts.f l0_3).bind fun t269 => ((impl_copyInts.f l0_4).bind fun t272 => (some (a0_0,t263,t266,t269,t272,t260)))))) = some (r1,r2,r3,r4,r5,r6):=H
  have A3:=Aside0.mk A30
  clear A30
  replace H:=Option.bind_eq_some_iff.mp H
  obtain ⟨t263,A40,H⟩:=H
  replace H : ((impl_copyTexts.f l0_2).bind fun t266 => ((impl_copyTexts.f l0_3).bind fun t269 => ((impl_copyInts.f l0_4).bind fun t272 => (some (a0_0,t263,t266,t269,t272,t260))))) = some (r1,r2,r3,r4,r5,r6):=H
  have A4:=Aside0.mk A40
  clear A40
  replace H:=Option.bind_eq_some_iff.mp H
  obtain ⟨t266,A50,H⟩:=H
  replace H : ((impl_copyTexts.f l0_3).bind fun t269 => ((impl_copyInts.f l0_4).bind fun t272 => (some (a0_0,t263,t266,t269,t272,t260)))) = some (r1,r2,r3,r4,r5,r6):=H
  have A5:=Aside0.mk A50
  clear A50
  replace H:=Option.bind_eq_some_iff.mp H
  obtain ⟨t269,A60,H⟩:=H
  replace H : ((impl_copyInts.f l0_4).bind fun t272 => (some (a0_0,t263,t266,t269,t272,t260))) = some (r1,r2,r3,r4,r5,r6):=H
  have A6:=Aside0.mk A60
  clear A60
  replace H:=Option.bind_eq_some_iff.mp H
  obtain ⟨t272,A70,H⟩:=H
  replace H : (some (a0_0,t263,t266,t269,t272,t260)) = some (r1,r2,r3,r4,r5,r6):=H
  have A7:=Aside0.mk A70
  clear A70
  simp only [Option.some.injEq,Prod.mk.injEq] at H
  obtain ⟨rfl,rfl,rfl,rfl,rfl,rfl⟩:=H
  go_enter Try.func37,Try.ntmps37
  try go_wp2_with (first | ((with_reducible refine gate_dst (N:=1) rfl ?_);refine box_event ?hg (N:=1) ?hd (cs:=#[.int .i64 a0_0,.slice A0_1 l0_1.length c0_1,.slice A0_2 l0_2.length c0_2,.slice A0_3 l0_3.length c0_3,.slice A0_4 l0_4.length c0_4,.slice A0_5 l0_5.length c0_5]) (t:=39) ?hr ?_;(case hd => rfl);(case hg => rfl);(case hr => first | (go_simp;done) | (go_simp;rfl));intro gb252 hg w8 hbox hb;have n0_:=Up.BB HB hb;have n1_:=Aside0.mk (hbox);have n2_:=Aside0.mk ((by rw [hg];exact (below_size (Up.Bup HB)) : w.heap.size ≤ gb252));have n3_:=Aside0.mk ((by rw [hg];exact (below_size (Up.Bup HB)) : w.heap.size ≤ gb252));clear HB;have HB:=n0_;have BK252:=n1_;have GW252:=n2_;have GE252:=n3_;clear n0_ n1_ n2_ n3_;clear hb hbox hg) | ((with_reducible refine gate_dst (N:=2) rfl ?_);refine box_event ?hg (N:=2) ?hd (cs:=#[.int .i64 0,.slice none 0 0,.slice none 0 0,.slice none 0 0,.slice none 0 0,.slice none 0 0]) (t:=39) ?hr ?_;(case hd => rfl);(case hg => rfl);(case hr => first | (go_simp;done) | (go_simp;rfl));intro gb253 hg w9 hbox hb;have n0_:=Up.KB BK252 hb;have n1_:=Aside0.mk (below_step (by repeat (first | (with_reducible first | exact HB.out | apply below_alloc | apply pw_below_drewN | apply below_drew1 | refine below_set ?_ GE252.out) | exact HB.out)) hb);have n2_:=Aside0.mk (hbox);have n3_:=Aside0.mk ((by rw [hg];exact (below_size (by repeat (first | (with_reducible first | exact HB.out | apply below_alloc | apply pw_below_drewN | apply below_drew1 | refine below_set ?_ GE252.out) | exact HB.out))) : w.heap.size ≤ gb253));have n4_:=Aside0.mk ((by rw [hg];exact (below_size (by repeat (first | (with_reducible first | exact HB.out | apply below_alloc | apply pw_below_drewN | apply below_drew1 | refine below_set ?_ GE252.out) | exact HB.out))) : w.heap.size ≤ gb253));have n5_:=Aside0.mk ((by rw [hg];exact Nat.ne_of_lt (blk_lt (g:=gb252) (o:=.cells #[.int .i64 a0_0,.slice A0_1 l0_1.length c0_1,.slice A0_2 l0_2.length c0_2,.slice A0_3 l0_3.length c0_3,.slice A0_4 l0_4.length c0_4,.slice A0_5 l0_5.length c0_5] 39 (0,0)) (Up.Kup BK252)) : gb252 ≠ gb253));have n6_:=Aside0.mk ((by rw [hg];exact Nat.ne_of_gt (blk_lt (g:=gb252) (o:=.cells #[.int .i64 a0_0,.slice A0_1 l0_1.length c0_1,.slice A0_2 l0_2.length c0_2,.slice A0_3 l0_3.length c0_3,.slice A0_4 l0_4.length c0_4,.slice A0_5 l0_5.length c0_5] 39 (0,0)) (Up.Kup BK252)) : gb253 ≠ gb252));clear BK252;clear HB;have BK252:=n0_;have HB:=n1_;have BK253:=n2_;have GW253:=n3_;have GE253:=n4_;have NB252_253:=n5_;have NB253_252:=n6_;clear n0_ n1_ n2_ n3_ n4_ n5_ n6_;clear hb hbox hg) | ((with_reducible refine gate_dst (N:=4) rfl ?_);refine Kd.R_lit k83 _ 83 ?hg (N:=4) ?hd (xs:=([] : List (S83))) (inner:=[]) (ok:=fun _ => True) (okp:=fun _ => True) ?hr ?hp (fun _ hk => hk) trivial (Below.refl _ _) (Nat.le_refl _) (by simp) ?_;(case hd => rfl);(case hg => rfl);(case hr => first | (go_simp;done) | (go_simp;rfl));(case hp => exact (Reps.none _ _));intro v255 w10 ho11 hb hg_ hnew_;clear hg_ hnew_;(first | rw [← Ny254.out] at ho11 | (simp only [Int.reduceToNat] at ho11;rw [← Ny254.out] at ho11));have n0_:=Aside0.mk (Kd.R_lower (Kd.R_newM (M:=fun k_ => (w.heap.size ≤ k_)) ho11 (below_size (by repeat (first | (with_reducible first | exact HB.out | apply below_alloc | apply pw_below_drewN | apply below_drew1 | refine below_set ?_ GE252.out | refine below_set ?_ GE253.out) | exact HB.out))) (fun k_ h_ => h_)) (below_size (by repeat (first | (with_reducible first | exact HB.out | apply below_alloc | apply pw_below_drewN | apply below_drew1 | refine below_set ?_ GE252.out | refine below_set ?_ GE253.out) | exact HB.out))));have n1_:=Up.KB BK252 hb;have n2_:=Up.KB BK253 hb;have n3_:=Aside0.mk (below_step (by repeat (first | (with_reducible first | exact HB.out | apply below_alloc | apply pw_below_drewN | apply below_drew1 | refine below_set ?_ GE252.out | refine below_set ?_ GE253.out) | exact HB.out)) hb);clear BK252;clear BK253;clear HB;have HO256:=n0_;have BK252:=n1_;have BK253:=n2_;have HB:=n3_;clear n0_ n1_ n2_ n3_;clear hb ho11;have hnb12:=NB252_253.out;have hnc12:=NB253_252.out;have hcz13_0 : w10.cell? ⟨gb252,0,none⟩ = some (.int .i64 a0_0):=(blk_cell BK252.out 0).trans rfl;have hcz13_1 : w10.cell? ⟨gb252,1,none⟩ = some (.slice A0_1 l0_1.length c0_1):=(blk_cell BK252.out 1).trans rfl;have hcz13_2 : w10.cell? ⟨gb252,2,none⟩ = some (.slice A0_2 l0_2.length c0_2):=(blk_cell BK252.out 2).trans rfl;have hcz13_3 : w10.cell? ⟨gb252,3,none⟩ = some (.slice A0_3 l0_3.length c0_3):=(blk_cell BK252.out 3).trans rfl;have hcz13_4 : w10.cell? ⟨gb252,4,none⟩ = some (.slice A0_4 l0_4.length c0_4):=(blk_cell BK252.out 4).trans rfl;have hcz13_5 : w10.cell? ⟨gb252,5,none⟩ = some (.slice A0_5 l0_5.length c0_5):=(blk_cell BK252.out 5).trans rfl;have hfz13_0:=blk_frozen BK252.out 0;have hfz13_1:=blk_frozen BK252.out 1;have hfz13_2:=blk_frozen BK252.out 2;have hfz13_3:=blk_frozen BK252.out 3;have hfz13_4:=blk_frozen BK252.out 4;have hfz13_5:=blk_frozen BK252.out 5) | ((with_reducible refine gate_builtin (b:=.append) (xs:=#[.tmp 4,.tmp 6]) rfl ?_);at_builtin;refine Kd.R_append_rows k83 (w0:=w) w.heap.size rfl (.tmp 4) (.tmp 6) 37 83 (.agg #[(.string ⟨#[]⟩),(.int .i64 0),(.int .i64 0)]) 32 rfl Try.underlying37 info83 rfl (by decide) (by omega) v255 y254 l0_5 _ _ _ (fun k_ => (w.heap.size ≤ k_)) (fun _ => False) rfl rfl ?aO ?aR (fun _ _ h => h) (fun _ h => h.elim) ?aF ?aB ?aS ?aL ?_;(case aR => repeat (first | exact (Kd.C_below HR0_5.out HB.out) | (with_reducible refine Kd.C_alloc ?_ _) | (with_reducible refine Kd.C_drewN ?_ _) | (with_reducible refine Kd.C_drew ?_)));(case aB => exact (by repeat (first | (with_reducible first | exact HB.out | apply below_alloc | apply pw_below_drewN | apply below_drew1 | refine below_set ?_ GE252.out | refine below_set ?_ GE253.out) | exact HB.out)));(case aF => exact (fun k_ hk => (Nat.le_trans (below_size (by repeat (first | (with_reducible first | exact HB.out | apply below_alloc | apply pw_below_drewN | apply below_drew1 | refine below_set ?_ GE252.out | refine below_set ?_ GE253.out) | exact HB.out))) hk)));(case aO => exact (Up.Rq (Kd.R_mono HO256.out (fun _ hk => hk.1))));(case aS => exact (below_size (by repeat (first | (with_reducible first | exact HB.out | apply below_alloc | apply pw_below_drewN | apply below_drew1 | refine below_set ?_ GE252.out | refine below_set ?_ GE253.out) | exact HB.out))));(case aL => have:=LMc2.out;omega);intro v258 w14 ho hb hg hat;rw [← Ny257.out] at ho;have n0_:=Aside0.mk (blk_grown (g:=gb252) (o:=.cells #[.int .i64 a0_0,.slice A0_1 l0_1.length c0_1,.slice A0_2 l0_2.length c0_2,.slice A0_3 l0_3.length c0_3,.slice A0_4 l0_4.length c0_4,.slice A0_5 l0_5.length c0_5] 39 (0,0)) (Up.Kup BK252) hg (Kd.R_ne HO256.out BK252.out (by decide)));have n1_:=Aside0.mk (blk_grown (g:=gb253) (o:=.cells #[.int .i64 0,.slice none 0 0,.slice none 0 0,.slice none 0 0,.slice none 0 0,.slice none 0 0] 39 (0,0)) (Up.Kup BK253) hg (Kd.R_ne HO256.out BK253.out (by decide)));have n2_:=Aside0.mk (hb);have n3_:=Aside0.mk (ho);clear BK252;clear BK253;clear HB;clear HO256;have BK252:=n0_;have BK253:=n1_;have HB:=n2_;have HO259:=n3_;clear n0_ n1_ n2_ n3_;clear ho hb hg hat;obtain ⟨Ao15,co15,eo15⟩:=Kd.R_slice HO259.out;subst eo15) | ((with_reducible refine gate_callee (f:=57) rfl ?_);refine goesL_ (some 8) rfl rfl Try.func57 (by kernel_rfl) rfl #[.slice Ao15 y257.length co15] rfl (by (try simp only [List.map_toArray,List.map_cons,List.map_nil]);first | done | rfl | (simp only [List.length_drop,List.length_take];rfl)) ?_;(with_reducible refine (impl_Ins.calls (fun k_ => some k_ = (.slice Ao15 y257.length co15 : Value).ownBlock) _ _ y257 t260 _ ?side1 A3.out).mono ?_);(case side1 => exact Kd.R_V (Kd.R_tight rfl (Kd.R_types (Kd.R_types (HO259.out) BK252.out (by decide)) BK253.out (by decide))));rintro e w16 ⟨v261,rfl,ho0,hb⟩;refine ⟨_,rfl,?_⟩;have n0_:=Up.RB HO259 hb;have n1_:=Aside0.mk (Kd.V_lower (Kd.V_mono (ok':=fun k_ => (w.heap.size ≤ k_) ∧ k_ ≠ gb252 ∧ k_ ≠ gb253) ho0 (fun k_ hk_ => ⟨Or.elim hk_ (fun hs_ => ((Kd.R_types (Kd.R_types (HO259.out) BK252.out (by decide)) BK253.out (by decide)).1 k_ hs_.symm).1.1) (fun hn_ => (Nat.le_trans (below_size (by repeat (first | (with_reducible first | exact HB.out | apply below_alloc | apply pw_below_drewN | apply below_drew1 | refine below_set ?_ GE252.out | refine below_set ?_ GE253.out) | exact HB.out))) hn_)),Or.elim hk_ (fun hs_ => ((Kd.R_types (Kd.R_types (HO259.out) BK252.out (by decide)) BK253.out (by decide)).1 k_ hs_.symm).1.2) (fun hn_ => (Kd.freshB (g:=gb252) (o:=.cells #[.int .i64 a0_0,.slice A0_1 l0_1.length c0_1,.slice A0_2 l0_2.length c0_2,.slice A0_3 l0_3.length c0_3,.slice A0_4 l0_4.length c0_4,.slice A0_5 l0_5.length c0_5] 39 (0,0)) (Up.Kup BK252) k_ hn_)),Or.elim hk_ (fun hs_ => ((Kd.R_types (Kd.R_types (HO259.out) BK252.out (by decide)) BK253.out (by decide)).1 k_ hs_.symm).2) (fun hn_ => (Kd.freshB (g:=gb253) (o:=.cells #[.int .i64 0,.slice none 0 0,.slice none 0 0,.slice none 0 0,.slice none 0 0,.slice none 0 0] 39 (0,0)) (Up.Kup BK253) k_ hn_))⟩)) (below_size (by repeat (first | (with_reducible first | exact HB.out | apply below_alloc | apply pw_below_drewN | apply below_drew1 | refine below_set ?_ GE252.out | refine below_set ?_ GE253.out) | exact HB.out))));have n2_:=Up.KB BK252 hb;have n3_:=Up.KB BK253 hb;have n4_:=Aside0.mk (below_step (by repeat (first | (with_reducible first | exact HB.out | apply below_alloc | apply pw_below_drewN | apply below_drew1 | refine below_set ?_ GE252.out | refine below_set ?_ GE253.out) | exact HB.out)) hb);clear HO259;clear BK252;clear BK253;clear HB;have HO259:=n0_;have HO262:=n1_;have BK252:=n2_;have BK253:=n3_;have HB:=n4_;clear n0_ n1_ n2_ n3_ n4_;(try clear hb);(try clear hb2);(try clear hk);(try clear hi);(try clear ho0)))
  have n0_:=Aside0.mk (Kd.R_drew HO259.out)
  have n1_:=Aside0.mk (Kd.V_drew HO262.out)
  have n2_:=Aside0.mk (blk_drew BK252.out)
  have n3_:=Aside0.mk (blk_drew BK253.out)
  have n4_:=Aside0.mk (below_drew1 HB.out)
  clear HO259
  clear HO262
  clear BK252
  clear BK253
  clear HB
  have HO259:=n0_
  have HO262:=n1_
  have BK252:=n2_
  have BK253:=n3_
  have HB:=n4_
  clear n0_ n1_ n2_ n3_ n4_
  refine start_ (n:=17) (S:=fun w' => w'.cell? ⟨gb252,0,none⟩ = some (.int .i64 a0_0) ∧ w'.cell? ⟨gb252,1,none⟩ = some (.slice A0_1 l0_1.length c0_1) ∧ w'.cell? ⟨gb252,2,none⟩ = some (.slice A0_2 l0_2.length c0_2) ∧ w'.cell? ⟨gb252,3,none⟩ = some (.slice A0_3 l0_3.length c0_3) ∧ w'.cell? ⟨gb252,4,none⟩ = some (.slice A0_4 l0_4.length c0_4) ∧ w'.cell? ⟨gb252,5,none⟩ = some (.slice A0_5 l0_5.length c0_5)) (ds:=[]) #[false,false,false,false,false,false,false,false,false,false,false,false,false,false,false,false,false] (by kernel_rfl) rfl rfl ⟨(blk_cell BK252.out 0).trans rfl,(blk_cell BK252.out 1).trans rfl,(blk_cell BK252.out 2).trans rfl,(blk_cell BK252.out 3).trans rfl,(blk_cell BK252.out 4).trans rfl,(blk_cell BK252.out 5).trans rfl⟩ (fun hHeld => ?_);refine with_tabW impl_copyFunc.tab2 impl_copyFunc.bits2 (fun HT_ HW_ => ?_)
  generalize w16.drew = w17 at HO259 HO262 BK252 BK253 HB hHeld ⊢
  refine pure_ (i:=0) (N:=some 9) (v:=?_) (a':=?_) #[true,false,false,false,false,false,false,false,false,false,false,false,false,false,false,false,false] rfl rfl (any_of HT_.out (by kernel_rfl)) (fun _ _ _ h => h) (Or.inl ⟨by rfl,?_⟩) ?_ ?_
  rotate_left
  ·intro w'
   go_simp
   with_reducible rfl
  rotate_left
  ·simp only [Act.put,List.setIfInBounds_toArray,List.set_cons_zero,List.set_cons_succ,i64_w,i32_w]
   rfl
  refine pure_ (i:=2) (N:=some 11) (v:=?_) (a':=?_) #[true,false,true,false,false,false,false,false,false,false,false,false,false,false,false,false,false] rfl rfl (any_of HT_.out (by kernel_rfl)) (fun _ _ _ h => h) (Or.inl ⟨by rfl,?_⟩) ?_ ?_
  rotate_left
  ·intro w'
   go_simp
   with_reducible rfl
  rotate_left
  ·simp only [Act.put,List.setIfInBounds_toArray,List.set_cons_zero,List.set_cons_succ,i64_w,i32_w]
   rfl
  refine pure_ (i:=5) (N:=some 14) (v:=?_) (a':=?_) #[true,false,true,false,false,true,false,false,false,false,false,false,false,false,false,false,false] rfl rfl (any_of HT_.out (by kernel_rfl)) (fun _ _ _ h => h) (Or.inl ⟨by rfl,?_⟩) ?_ ?_
  rotate_left
  ·intro w'
   go_simp
   with_reducible rfl
  rotate_left
  ·simp only [Act.put,List.setIfInBounds_toArray,List.set_cons_zero,List.set_cons_succ,i64_w,i32_w]
   rfl
  refine pure_ (i:=8) (N:=some 17) (v:=?_) (a':=?_) #[true,false,true,false,false,true,false,false,true,false,false,false,false,false,false,false,false] rfl rfl (any_of HT_.out (by kernel_rfl)) (fun _ _ _ h => h) (Or.inl ⟨by rfl,?_⟩) ?_ ?_
  rotate_left
  ·intro w'
   go_simp
   with_reducible rfl
  rotate_left
  ·simp only [Act.put,List.setIfInBounds_toArray,List.set_cons_zero,List.set_cons_succ,i64_w,i32_w]
   rfl
  refine pure_ (i:=11) (N:=some 20) (v:=?_) (a':=?_) #[true,false,true,false,false,true,false,false,true,false,false,true,false,false,false,false,false] rfl rfl (any_of HT_.out (by kernel_rfl)) (fun _ _ _ h => h) (Or.inl ⟨by rfl,?_⟩) ?_ ?_
  rotate_left
  ·intro w'
   go_simp
   with_reducible rfl
  rotate_left
  ·simp only [Act.put,List.setIfInBounds_toArray,List.set_cons_zero,List.set_cons_succ,i64_w,i32_w]
   rfl
  refine pure_ (i:=14) (N:=some 23) (v:=?_) (a':=?_) #[true,false,true,false,false,true,false,false,true,false,false,true,false,false,true,false,false] rfl rfl (any_of HT_.out (by kernel_rfl)) (fun _ _ _ h => h) (Or.inl ⟨by rfl,?_⟩) ?_ ?_
  rotate_left
  ·intro w'
   go_simp
   with_reducible rfl
  rotate_left
  ·simp only [Act.put,List.setIfInBounds_toArray,List.set_cons_zero,List.set_cons_succ,i64_w,i32_w]
   rfl
  refine take_ (i:=1) (N:=some 10) (v:=?_) (a':=?_) #[true,true,true,false,false,true,false,false,true,false,false,true,false,false,true,false,false] rfl rfl (take_ofW HT_.out HW_.out (by kernel_rfl)) (fun _ _ _ h => h) (Or.inl ⟨by rfl,?_⟩) hHeld ?_ ?_
  rotate_left
  ·rintro w' ⟨s0,s1,s2,s3,s4,s5⟩
   go_simp
   with_reducible rfl
  rotate_left
  ·simp only [Act.put,List.setIfInBounds_toArray,List.set_cons_zero,List.set_cons_succ,i64_w,i32_w]
   rfl
  refine take_ (i:=3) (N:=some 12) (v:=?_) (a':=?_) #[true,true,true,true,false,true,false,false,true,false,false,true,false,false,true,false,false] rfl rfl (take_ofW HT_.out HW_.out (by kernel_rfl)) (fun _ _ _ h => h) (Or.inl ⟨by rfl,?_⟩) hHeld ?_ ?_
  rotate_left
  ·rintro w' ⟨s0,s1,s2,s3,s4,s5⟩
   go_simp
   with_reducible rfl
  rotate_left
  ·simp only [Act.put,List.setIfInBounds_toArray,List.set_cons_zero,List.set_cons_succ,i64_w,i32_w]
   rfl
  refine take_ (i:=6) (N:=some 15) (v:=?_) (a':=?_) #[true,true,true,true,false,true,true,false,true,false,false,true,false,false,true,false,false] rfl rfl (take_ofW HT_.out HW_.out (by kernel_rfl)) (fun _ _ _ h => h) (Or.inl ⟨by rfl,?_⟩) hHeld ?_ ?_
  rotate_left
  ·rintro w' ⟨s0,s1,s2,s3,s4,s5⟩
   go_simp
   with_reducible rfl
  rotate_left
  ·simp only [Act.put,List.setIfInBounds_toArray,List.set_cons_zero,List.set_cons_succ,i64_w,i32_w]
   rfl
  refine take_ (i:=9) (N:=some 18) (v:=?_) (a':=?_) #[true,true,true,true,false,true,true,false,true,true,false,true,false,false,true,false,false] rfl rfl (take_ofW HT_.out HW_.out (by kernel_rfl)) (fun _ _ _ h => h) (Or.inl ⟨by rfl,?_⟩) hHeld ?_ ?_
  rotate_left
  ·rintro w' ⟨s0,s1,s2,s3,s4,s5⟩
   go_simp
   with_reducible rfl
  rotate_left
  ·simp only [Act.put,List.setIfInBounds_toArray,List.set_cons_zero,List.set_cons_succ,i64_w,i32_w]
   rfl
  refine take_ (i:=12) (N:=some 21) (v:=?_) (a':=?_) #[true,true,true,true,false,true,true,false,true,true,false,true,true,false,true,false,false] rfl rfl (take_ofW HT_.out HW_.out (by kernel_rfl)) (fun _ _ _ h => h) (Or.inl ⟨by rfl,?_⟩) hHeld ?_ ?_
  rotate_left
  ·rintro w' ⟨s0,s1,s2,s3,s4,s5⟩
   go_simp
   with_reducible rfl
  rotate_left
  ·simp only [Act.put,List.setIfInBounds_toArray,List.set_cons_zero,List.set_cons_succ,i64_w,i32_w]
   rfl
  refine one_ (i:=4) (N:=some 13) #[true,true,true,true,true,true,true,false,true,true,false,true,true,false,true,false,false] rfl rfl (one_of HT_.out (by kernel_rfl)) (by decide) (fun K hK => ?_)
  refine goes_ Try.func54 (by kernel_rfl) rfl #[.slice A0_1 l0_1.length c0_1] (by rfl) rfl rfl (by (try simp only [List.map_toArray,List.map_cons,List.map_nil]);first | done | rfl | (simp only [List.length_drop,List.length_take];rfl)) ?_
  with_reducible refine (impl_copyTexts.calls _ _ l0_1 t263 _ ?side1 ?side2 A4.out).mono ?_
  (case side1 => repeat (first | exact (Kd.C_below HR0_1.out HB.out) | (with_reducible refine Kd.C_alloc ?_ _) | (with_reducible refine Kd.C_drewN ?_ _) | (with_reducible refine Kd.C_drew ?_)))
  (case side2 => exact HC0_1.out)
  rintro e w18 ⟨v264,rfl,ho0,hb⟩
  refine ⟨_,rfl,?_⟩
  have n0_:=Up.RB HO259 hb
  have n1_:=Up.VB HO262 hb
  have n2_:=Aside0.mk (Kd.V_lower (Kd.V_mono (ok':=fun k_ => (w.heap.size ≤ k_) ∧ some k_ ≠ (.slice Ao15 y257.length co15 : Value).ownBlock ∧ k_ ≠ gb252 ∧ k_ ≠ gb253) ho0 (fun k_ hk_ => ⟨(Nat.le_trans (below_size (by repeat (first | (with_reducible first | exact HB.out | apply below_alloc | apply pw_below_drewN | apply below_drew1 | refine below_set ?_ GE252.out | refine below_set ?_ GE253.out) | exact HB.out))) hk_),(Kd.fresh' (Kd.R_lt (Up.Rup HO259)) k_ hk_),(Kd.freshB (g:=gb252) (o:=.cells #[.int .i64 a0_0,.slice A0_1 l0_1.length c0_1,.slice A0_2 l0_2.length c0_2,.slice A0_3 l0_3.length c0_3,.slice A0_4 l0_4.length c0_4,.slice A0_5 l0_5.length c0_5] 39 (0,0)) (Up.Kup BK252) k_ hk_),(Kd.freshB (g:=gb253) (o:=.cells #[.int .i64 0,.slice none 0 0,.slice none 0 0,.slice none 0 0,.slice none 0 0,.slice none 0 0] 39 (0,0)) (Up.Kup BK253) k_ hk_)⟩)) (below_size (by repeat (first | (with_reducible first | exact HB.out | apply below_alloc | apply pw_below_drewN | apply below_drew1 | refine below_set ?_ GE252.out | refine below_set ?_ GE253.out) | exact HB.out))))
  have n3_:=Up.KB BK252 hb
  have n4_:=Up.KB BK253 hb
  have n5_:=Aside0.mk (below_step (by repeat (first | (with_reducible first | exact HB.out | apply below_alloc | apply pw_below_drewN | apply below_drew1 | refine below_set ?_ GE252.out | refine below_set ?_ GE253.out) | exact HB.out)) hb)
  clear HO259
  clear HO262
  clear BK252
  clear BK253
  clear HB
  have HO259:=n0_
  have HO262:=n1_
  have HO265:=n2_
  have BK252:=n3_
  have BK253:=n4_
  have HB:=n5_
  clear n0_ n1_ n2_ n3_ n4_ n5_
  (try clear hb)
  (try clear hb2)
  (try clear hk)
  (try clear hi)
  (try clear ho0)
  refine hK.out _ _ ⟨(blk_cell BK252.out 0).trans rfl,(blk_cell BK252.out 1).trans rfl,(blk_cell BK252.out 2).trans rfl,(blk_cell BK252.out 3).trans rfl,(blk_cell BK252.out 4).trans rfl,(blk_cell BK252.out 5).trans rfl⟩ (fun hHeld => ?_)
  clear hK K
  refine norm_ (a':=?_) ?_ ?_
  rotate_left
  ·show Act.put _ (some 13) _ = _
   simp only [Act.put,List.setIfInBounds_toArray,List.set_cons_zero,List.set_cons_succ,i64_w,i32_w]
   rfl
  refine one_ (i:=7) (N:=some 16) #[true,true,true,true,true,true,true,true,true,true,false,true,true,false,true,false,false] rfl rfl (one_of HT_.out (by kernel_rfl)) (by decide) (fun K hK => ?_)
  refine goes_ Try.func54 (by kernel_rfl) rfl #[.slice A0_2 l0_2.length c0_2] (by rfl) rfl rfl (by (try simp only [List.map_toArray,List.map_cons,List.map_nil]);first | done | rfl | (simp only [List.length_drop,List.length_take];rfl)) ?_
  with_reducible refine (impl_copyTexts.calls _ _ l0_2 t266 _ ?side1 ?side2 A5.out).mono ?_
  (case side1 => repeat (first | exact (Kd.C_below HR0_2.out HB.out) | (with_reducible refine Kd.C_alloc ?_ _) | (with_reducible refine Kd.C_drewN ?_ _) | (with_reducible refine Kd.C_drew ?_)))
  (case side2 => exact HC0_2.out)
  rintro e w19 ⟨v267,rfl,ho0,hb⟩
  refine ⟨_,rfl,?_⟩
  have n0_:=Up.RB HO259 hb
  have n1_:=Up.VB HO262 hb
  have n2_:=Up.VB HO265 hb
  have n3_:=Aside0.mk (Kd.V_lower (Kd.V_mono (ok':=fun k_ => (w.heap.size ≤ k_) ∧ some k_ ≠ (.slice Ao15 y257.length co15 : Value).ownBlock ∧ k_ ≠ gb252 ∧ k_ ≠ gb253) ho0 (fun k_ hk_ => ⟨(Nat.le_trans (below_size (by repeat (first | (with_reducible first | exact HB.out | apply below_alloc | apply pw_below_drewN | apply below_drew1 | refine below_set ?_ GE252.out | refine below_set ?_ GE253.out) | exact HB.out))) hk_),(Kd.fresh' (Kd.R_lt (Up.Rup HO259)) k_ hk_),(Kd.freshB (g:=gb252) (o:=.cells #[.int .i64 a0_0,.slice A0_1 l0_1.length c0_1,.slice A0_2 l0_2.length c0_2,.slice A0_3 l0_3.length c0_3,.slice A0_4 l0_4.length c0_4,.slice A0_5 l0_5.length c0_5] 39 (0,0)) (Up.Kup BK252) k_ hk_),(Kd.freshB (g:=gb253) (o:=.cells #[.int .i64 0,.slice none 0 0,.slice none 0 0,.slice none 0 0,.slice none 0 0,.slice none 0 0] 39 (0,0)) (Up.Kup BK253) k_ hk_)⟩)) (below_size (by repeat (first | (with_reducible first | exact HB.out | apply below_alloc | apply pw_below_drewN | apply below_drew1 | refine below_set ?_ GE252.out | refine below_set ?_ GE253.out) | exact HB.out))))
  have n4_:=Up.KB BK252 hb
  have n5_:=Up.KB BK253 hb
  have n6_:=Aside0.mk (below_step (by repeat (first | (with_reducible first | exact HB.out | apply below_alloc | apply pw_below_drewN | apply below_drew1 | refine below_set ?_ GE252.out | refine below_set ?_ GE253.out) | exact HB.out)) hb)
  clear HO259
  clear HO262
  clear HO265
  clear BK252
  clear BK253
  clear HB
  have HO259:=n0_
  have HO262:=n1_
  have HO265:=n2_
  have HO268:=n3_
  have BK252:=n4_
  have BK253:=n5_
  have HB:=n6_
  clear n0_ n1_ n2_ n3_ n4_ n5_ n6_
  (try clear hb)
  (try clear hb2)
  (try clear hk)
  (try clear hi)
  (try clear ho0)
  refine hK.out _ _ ⟨(blk_cell BK252.out 0).trans rfl,(blk_cell BK252.out 1).trans rfl,(blk_cell BK252.out 2).trans rfl,(blk_cell BK252.out 3).trans rfl,(blk_cell BK252.out 4).trans rfl,(blk_cell BK252.out 5).trans rfl⟩ (fun hHeld => ?_)
  clear hK K
  refine norm_ (a':=?_) ?_ ?_
  rotate_left
  ·show Act.put _ (some 16) _ = _
   simp only [Act.put,List.setIfInBounds_toArray,List.set_cons_zero,List.set_cons_succ,i64_w,i32_w]
   rfl
  refine one_ (i:=10) (N:=some 19) #[true,true,true,true,true,true,true,true,true,true,true,true,true,false,true,false,false] rfl rfl (one_of HT_.out (by kernel_rfl)) (by decide) (fun K hK => ?_)
  refine goes_ Try.func54 (by kernel_rfl) rfl #[.slice A0_3 l0_3.length c0_3] (by rfl) rfl rfl (by (try simp only [List.map_toArray,List.map_cons,List.map_nil]);first | done | rfl | (simp only [List.length_drop,List.length_take];rfl)) ?_
  with_reducible refine (impl_copyTexts.calls _ _ l0_3 t269 _ ?side1 ?side2 A6.out).mono ?_
  (case side1 => repeat (first | exact (Kd.C_below HR0_3.out HB.out) | (with_reducible refine Kd.C_alloc ?_ _) | (with_reducible refine Kd.C_drewN ?_ _) | (with_reducible refine Kd.C_drew ?_)))
  (case side2 => exact HC0_3.out)
  rintro e w20 ⟨v270,rfl,ho0,hb⟩
  refine ⟨_,rfl,?_⟩
  have n0_:=Up.RB HO259 hb
  have n1_:=Up.VB HO262 hb
  have n2_:=Up.VB HO265 hb
  have n3_:=Up.VB HO268 hb
  have n4_:=Aside0.mk (Kd.V_lower (Kd.V_mono (ok':=fun k_ => (w.heap.size ≤ k_) ∧ some k_ ≠ (.slice Ao15 y257.length co15 : Value).ownBlock ∧ k_ ≠ gb252 ∧ k_ ≠ gb253) ho0 (fun k_ hk_ => ⟨(Nat.le_trans (below_size (by repeat (first | (with_reducible first | exact HB.out | apply below_alloc | apply pw_below_drewN | apply below_drew1 | refine below_set ?_ GE252.out | refine below_set ?_ GE253.out) | exact HB.out))) hk_),(Kd.fresh' (Kd.R_lt (Up.Rup HO259)) k_ hk_),(Kd.freshB (g:=gb252) (o:=.cells #[.int .i64 a0_0,.slice A0_1 l0_1.length c0_1,.slice A0_2 l0_2.length c0_2,.slice A0_3 l0_3.length c0_3,.slice A0_4 l0_4.length c0_4,.slice A0_5 l0_5.length c0_5] 39 (0,0)) (Up.Kup BK252) k_ hk_),(Kd.freshB (g:=gb253) (o:=.cells #[.int .i64 0,.slice none 0 0,.slice none 0 0,.slice none 0 0,.slice none 0 0,.slice none 0 0] 39 (0,0)) (Up.Kup BK253) k_ hk_)⟩)) (below_size (by repeat (first | (with_reducible first | exact HB.out | apply below_alloc | apply pw_below_drewN | apply below_drew1 | refine below_set ?_ GE252.out | refine below_set ?_ GE253.out) | exact HB.out))))
  have n5_:=Up.KB BK252 hb
  have n6_:=Up.KB BK253 hb
  have n7_:=Aside0.mk (below_step (by repeat (first | (with_reducible first | exact HB.out | apply below_alloc | apply pw_below_drewN | apply below_drew1 | refine below_set ?_ GE252.out | refine below_set ?_ GE253.out) | exact HB.out)) hb)
  clear HO259
  clear HO262
  clear HO265
  clear HO268
  clear BK252
  clear BK253
  clear HB
  have HO259:=n0_
  have HO262:=n1_
  have HO265:=n2_
  have HO268:=n3_
  have HO271:=n4_
  have BK252:=n5_
  have BK253:=n6_
  have HB:=n7_
  clear n0_ n1_ n2_ n3_ n4_ n5_ n6_ n7_
  (try clear hb)
  (try clear hb2)
  (try clear hk)
  (try clear hi)
  (try clear ho0)
  refine hK.out _ _ ⟨(blk_cell BK252.out 0).trans rfl,(blk_cell BK252.out 1).trans rfl,(blk_cell BK252.out 2).trans rfl,(blk_cell BK252.out 3).trans rfl,(blk_cell BK252.out 4).trans rfl,(blk_cell BK252.out 5).trans rfl⟩ (fun hHeld => ?_)
  clear hK K
  refine norm_ (a':=?_) ?_ ?_
  rotate_left
  ·show Act.put _ (some 19) _ = _
   simp only [Act.put,List.setIfInBounds_toArray,List.set_cons_zero,List.set_cons_succ,i64_w,i32_w]
   rfl
  refine one_ (i:=13) (N:=some 22) #[true,true,true,true,true,true,true,true,true,true,true,true,true,true,true,false,false] rfl rfl (one_of HT_.out (by kernel_rfl)) (by decide) (fun K hK => ?_)
  refine goes_ Try.func58 (by kernel_rfl) rfl #[.slice A0_4 l0_4.length c0_4] (by rfl) rfl rfl (by (try simp only [List.map_toArray,List.map_cons,List.map_nil]);first | done | rfl | (simp only [List.length_drop,List.length_take];rfl)) ?_
  with_reducible refine (impl_copyInts.calls _ _ l0_4 t272 _ ?side1 ?side2 A7.out).mono ?_
  (case side1 => repeat (first | exact (Kd.C_below HR0_4.out HB.out) | (with_reducible refine Kd.C_alloc ?_ _) | (with_reducible refine Kd.C_drewN ?_ _) | (with_reducible refine Kd.C_drew ?_)))
  (case side2 => exact HC0_4.out)
  rintro e w21 ⟨v273,rfl,ho0,hb⟩
  refine ⟨_,rfl,?_⟩
  have n0_:=Up.RB HO259 hb
  have n1_:=Up.VB HO262 hb
  have n2_:=Up.VB HO265 hb
  have n3_:=Up.VB HO268 hb
  have n4_:=Up.VB HO271 hb
  have n5_:=Aside0.mk (Kd.V_lower (Kd.V_mono (ok':=fun k_ => (w.heap.size ≤ k_) ∧ some k_ ≠ (.slice Ao15 y257.length co15 : Value).ownBlock ∧ k_ ≠ gb252 ∧ k_ ≠ gb253) ho0 (fun k_ hk_ => ⟨(Nat.le_trans (below_size (by repeat (first | (with_reducible first | exact HB.out | apply below_alloc | apply pw_below_drewN | apply below_drew1 | refine below_set ?_ GE252.out | refine below_set ?_ GE253.out) | exact HB.out))) hk_),(Kd.fresh' (Kd.R_lt (Up.Rup HO259)) k_ hk_),(Kd.freshB (g:=gb252) (o:=.cells #[.int .i64 a0_0,.slice A0_1 l0_1.length c0_1,.slice A0_2 l0_2.length c0_2,.slice A0_3 l0_3.length c0_3,.slice A0_4 l0_4.length c0_4,.slice A0_5 l0_5.length c0_5] 39 (0,0)) (Up.Kup BK252) k_ hk_),(Kd.freshB (g:=gb253) (o:=.cells #[.int .i64 0,.slice none 0 0,.slice none 0 0,.slice none 0 0,.slice none 0 0,.slice none 0 0] 39 (0,0)) (Up.Kup BK253) k_ hk_)⟩)) (below_size (by repeat (first | (with_reducible first | exact HB.out | apply below_alloc | apply pw_below_drewN | apply below_drew1 | refine below_set ?_ GE252.out | refine below_set ?_ GE253.out) | exact HB.out))))
  have n6_:=Up.KB BK252 hb
  have n7_:=Up.KB BK253 hb
  have n8_:=Aside0.mk (below_step (by repeat (first | (with_reducible first | exact HB.out | apply below_alloc | apply pw_below_drewN | apply below_drew1 | refine below_set ?_ GE252.out | refine below_set ?_ GE253.out) | exact HB.out)) hb)
  clear HO259
  clear HO262
  clear HO265
  clear HO268
  clear HO271
  clear BK252
  clear BK253
  clear HB
  have HO259:=n0_
  have HO262:=n1_
  have HO265:=n2_
  have HO268:=n3_
  have HO271:=n4_
  have HO274:=n5_
  have BK252:=n6_
  have BK253:=n7_
  have HB:=n8_
  clear n0_ n1_ n2_ n3_ n4_ n5_ n6_ n7_ n8_
  (try clear hb)
  (try clear hb2)
  (try clear hk)
  (try clear hi)
  (try clear ho0)
  obtain ⟨Ao22,co22,eo22⟩:=Kd.V_slice HO262.out
  (first | subst eo22 | (injection eo22 with f1_ f2_ f3_;have f4_:=f1_.symm;have f5_:=f3_.symm;clear f1_ f2_ f3_;subst f4_;subst f5_))
  obtain ⟨Ao23,co23,eo23⟩:=Kd.V_slice HO274.out
  (first | subst eo23 | (injection eo23 with f1_ f2_ f3_;have f4_:=f1_.symm;have f5_:=f3_.symm;clear f1_ f2_ f3_;subst f4_;subst f5_))
  obtain ⟨Ao24,co24,eo24⟩:=Kd.V_slice HO271.out
  (first | subst eo24 | (injection eo24 with f1_ f2_ f3_;have f4_:=f1_.symm;have f5_:=f3_.symm;clear f1_ f2_ f3_;subst f4_;subst f5_))
  obtain ⟨Ao25,co25,eo25⟩:=Kd.V_slice HO268.out
  (first | subst eo25 | (injection eo25 with f1_ f2_ f3_;have f4_:=f1_.symm;have f5_:=f3_.symm;clear f1_ f2_ f3_;subst f4_;subst f5_))
  obtain ⟨Ao26,co26,eo26⟩:=Kd.V_slice HO265.out
  (first | subst eo26 | (injection eo26 with f1_ f2_ f3_;have f4_:=f1_.symm;have f5_:=f3_.symm;clear f1_ f2_ f3_;subst f4_;subst f5_))
  refine hK.out _ _ ⟨(blk_cell BK252.out 0).trans rfl,(blk_cell BK252.out 1).trans rfl,(blk_cell BK252.out 2).trans rfl,(blk_cell BK252.out 3).trans rfl,(blk_cell BK252.out 4).trans rfl,(blk_cell BK252.out 5).trans rfl⟩ (fun hHeld => ?_)
  clear hK K
  refine norm_ (a':=?_) ?_ ?_
  rotate_left
  ·show Act.put _ (some 22) _ = _
   simp only [Act.put,List.setIfInBounds_toArray,List.set_cons_zero,List.set_cons_succ,i64_w,i32_w]
   rfl
  refine pure_ (i:=15) (N:=some 24) (v:=?_) (a':=?_) #[true,true,true,true,true,true,true,true,true,true,true,true,true,true,true,true,false] rfl rfl (any_of HT_.out (by kernel_rfl)) (fun _ _ _ h => h) (Or.inl ⟨by rfl,?_⟩) ?_ ?_
  rotate_left
  ·intro w'
   go_simp
   with_reducible rfl
  rotate_left
  ·simp only [Act.put,List.setIfInBounds_toArray,List.set_cons_zero,List.set_cons_succ,i64_w,i32_w]
   rfl
  refine one_ (i:=16) (N:=none) #[true,true,true,true,true,true,true,true,true,true,true,true,true,true,true,true,true] rfl rfl (one_of HT_.out (by kernel_rfl)) (by decide) (fun K hK => ?_)
  have hs27 : w21.cell? ⟨gb253,0,none⟩ = some (.int .i64 0):=(blk_cell BK253.out 0).trans rfl
  have hfs27:=blk_frozen BK253.out 0
  have hns27_0:=NB252_253.out
  have hms27_0:=NB253_252.out
  have hs28 : w21.cell? ⟨gb253,1,none⟩ = some (.slice none 0 0):=(blk_cell BK253.out 1).trans rfl
  have hfs28:=blk_frozen BK253.out 1
  have hns28_0:=NB252_253.out
  have hms28_0:=NB253_252.out
  have hs29 : w21.cell? ⟨gb253,2,none⟩ = some (.slice none 0 0):=(blk_cell BK253.out 2).trans rfl
  have hfs29:=blk_frozen BK253.out 2
  have hns29_0:=NB252_253.out
  have hms29_0:=NB253_252.out
  have hs30 : w21.cell? ⟨gb253,3,none⟩ = some (.slice none 0 0):=(blk_cell BK253.out 3).trans rfl
  have hfs30:=blk_frozen BK253.out 3
  have hns30_0:=NB252_253.out
  have hms30_0:=NB253_252.out
  have hs31 : w21.cell? ⟨gb253,4,none⟩ = some (.slice none 0 0):=(blk_cell BK253.out 4).trans rfl
  have hfs31:=blk_frozen BK253.out 4
  have hns31_0:=NB252_253.out
  have hms31_0:=NB253_252.out
  have hs32 : w21.cell? ⟨gb253,5,none⟩ = some (.slice none 0 0):=(blk_cell BK253.out 5).trans rfl
  have hfs32:=blk_frozen BK253.out 5
  have hns32_0:=NB252_253.out
  have hms32_0:=NB253_252.out
  refine skip_ (w1:=?_) (by rfl) rfl ?_ ?_
  rotate_left
  ·go_simp
   rfl
  refine hK.out _ _ ⟨((cell_far (p:=⟨gb253,_,none⟩) NB252_253.out _).trans (((cell_far (p:=⟨gb253,_,none⟩) NB252_253.out _).trans (((cell_far (p:=⟨gb253,_,none⟩) NB252_253.out _).trans (((cell_far (p:=⟨gb253,_,none⟩) NB252_253.out _).trans (((cell_far (p:=⟨gb253,_,none⟩) NB252_253.out _).trans (((cell_far (p:=⟨gb253,_,none⟩) NB252_253.out _).trans (hHeld.1)))))))))))),((cell_far (p:=⟨gb253,_,none⟩) NB252_253.out _).trans (((cell_far (p:=⟨gb253,_,none⟩) NB252_253.out _).trans (((cell_far (p:=⟨gb253,_,none⟩) NB252_253.out _).trans (((cell_far (p:=⟨gb253,_,none⟩) NB252_253.out _).trans (((cell_far (p:=⟨gb253,_,none⟩) NB252_253.out _).trans (((cell_far (p:=⟨gb253,_,none⟩) NB252_253.out _).trans (hHeld.2.1)))))))))))),((cell_far (p:=⟨gb253,_,none⟩) NB252_253.out _).trans (((cell_far (p:=⟨gb253,_,none⟩) NB252_253.out _).trans (((cell_far (p:=⟨gb253,_,none⟩) NB252_253.out _).trans (((cell_far (p:=⟨gb253,_,none⟩) NB252_253.out _).trans (((cell_far (p:=⟨gb253,_,none⟩) NB252_253.out _).trans (((cell_far (p:=⟨gb253,_,none⟩) NB252_253.out _).trans (hHeld.2.2.1)))))))))))),((cell_far (p:=⟨gb253,_,none⟩) NB252_253.out _).trans (((cell_far (p:=⟨gb253,_,none⟩) NB252_253.out _).trans (((cell_far (p:=⟨gb253,_,none⟩) NB252_253.out _).trans (((cell_far (p:=⟨gb253,_,none⟩) NB252_253.out _).trans (((cell_far (p:=⟨gb253,_,none⟩) NB252_253.out _).trans (((cell_far (p:=⟨gb253,_,none⟩) NB252_253.out _).trans (hHeld.2.2.2.1)))))))))))),((cell_far (p:=⟨gb253,_,none⟩) NB252_253.out _).trans (((cell_far (p:=⟨gb253,_,none⟩) NB252_253.out _).trans (((cell_far (p:=⟨gb253,_,none⟩) NB252_253.out _).trans (((cell_far (p:=⟨gb253,_,none⟩) NB252_253.out _).trans (((cell_far (p:=⟨gb253,_,none⟩) NB252_253.out _).trans (((cell_far (p:=⟨gb253,_,none⟩) NB252_253.out _).trans (hHeld.2.2.2.2.1)))))))))))),((cell_far (p:=⟨gb253,_,none⟩) NB252_253.out _).trans (((cell_far (p:=⟨gb253,_,none⟩) NB252_253.out _).trans (((cell_far (p:=⟨gb253,_,none⟩) NB252_253.out _).trans (((cell_far (p:=⟨gb253,_,none⟩) NB252_253.out _).trans (((cell_far (p:=⟨gb253,_,none⟩) NB252_253.out _).trans (((cell_far (p:=⟨gb253,_,none⟩) NB252_253.out _).trans (hHeld.2.2.2.2.2))))))))))))⟩ (fun hHeld => ?_)
  clear hK K
  refine done_ (done_of HT_.out (by kernel_rfl)) ?_
  try go_wp2
  refine bodyPost_ret (results_cell_row rfl _ _ gb253 39 #[.int .i64 a0_0,.slice Ao26 t263.length co26,.slice Ao25 t266.length co25,.slice Ao24 t269.length co24,.slice Ao23 t272.length co23,.slice Ao22 t260.length co22] (0,0) _ rfl (by (with_reducible repeat (first | refine blk_drewN ?_ _ | refine blk_drew ?_ | refine blk_alloc ?_ _));refine blk_put (cs:=#[.int .i64 a0_0,.slice Ao26 t263.length co26,.slice Ao25 t266.length co25,.slice Ao24 t269.length co24,.slice Ao23 t272.length co23,.slice none 0 0]) ?_ 5 _ rfl;(with_reducible repeat (first | refine blk_drewN ?_ _ | refine blk_drew ?_ | refine blk_alloc ?_ _));refine blk_put (cs:=#[.int .i64 a0_0,.slice Ao26 t263.length co26,.slice Ao25 t266.length co25,.slice Ao24 t269.length co24,.slice none 0 0,.slice none 0 0]) ?_ 4 _ rfl;(with_reducible repeat (first | refine blk_drewN ?_ _ | refine blk_drew ?_ | refine blk_alloc ?_ _));refine blk_put (cs:=#[.int .i64 a0_0,.slice Ao26 t263.length co26,.slice Ao25 t266.length co25,.slice none 0 0,.slice none 0 0,.slice none 0 0]) ?_ 3 _ rfl;(with_reducible repeat (first | refine blk_drewN ?_ _ | refine blk_drew ?_ | refine blk_alloc ?_ _));refine blk_put (cs:=#[.int .i64 a0_0,.slice Ao26 t263.length co26,.slice none 0 0,.slice none 0 0,.slice none 0 0,.slice none 0 0]) ?_ 2 _ rfl;(with_reducible repeat (first | refine blk_drewN ?_ _ | refine blk_drew ?_ | refine blk_alloc ?_ _));refine blk_put (cs:=#[.int .i64 a0_0,.slice none 0 0,.slice none 0 0,.slice none 0 0,.slice none 0 0,.slice none 0 0]) ?_ 1 _ rfl;(with_reducible repeat (first | refine blk_drewN ?_ _ | refine blk_drew ?_ | refine blk_alloc ?_ _));refine blk_put (cs:=#[.int .i64 0,.slice none 0 0,.slice none 0 0,.slice none 0 0,.slice none 0 0,.slice none 0 0]) ?_ 0 _ rfl;(with_reducible repeat (first | refine blk_drewN ?_ _ | refine blk_drew ?_ | refine blk_alloc ?_ _));exact BK253.out) Try.underlying39 rfl (by kernel_rfl)) rfl ?_
  exact ⟨_,_,_,_,_,by first | rfl | (simp [errW_none,errW_some] <;> rfl) | (simp [*,errW_none,errW_some] <;> rfl),by (with_reducible repeat (first | apply Kd.V_alloc | apply Kd.V_drewN | apply Kd.V_drew));exact Kd.V_mono (Kd.V_far (p:=⟨gb253,5,none⟩) (Kd.V_far (p:=⟨gb253,4,none⟩) (Kd.V_far (p:=⟨gb253,3,none⟩) (Kd.V_far (p:=⟨gb253,2,none⟩) (Kd.V_far (p:=⟨gb253,1,none⟩) (Kd.V_far (p:=⟨gb253,0,none⟩) (Kd.V_mono HO265.out (fun k_ hk => (⟨hk,hk.2.2.2⟩ : _ ∧ k_ ≠ gb253))) (fun _ hk => hk.2) (.int .i64 a0_0)) (fun _ hk => hk.2) (.slice Ao26 t263.length co26)) (fun _ hk => hk.2) (.slice Ao25 t266.length co25)) (fun _ hk => hk.2) (.slice Ao24 t269.length co24)) (fun _ hk => hk.2) (.slice Ao23 t272.length co23)) (fun _ hk => hk.2) (.slice Ao22 t260.length co22)) (fun _ hk => hk.1.1),by (with_reducible repeat (first | apply Kd.V_alloc | apply Kd.V_drewN | apply Kd.V_drew));exact Kd.V_mono (Kd.V_far (p:=⟨gb253,5,none⟩) (Kd.V_far (p:=⟨gb253,4,none⟩) (Kd.V_far (p:=⟨gb253,3,none⟩) (Kd.V_far (p:=⟨gb253,2,none⟩) (Kd.V_far (p:=⟨gb253,1,none⟩) (Kd.V_far (p:=⟨gb253,0,none⟩) (Kd.V_mono HO268.out (fun k_ hk => (⟨hk,hk.2.2.2⟩ : _ ∧ k_ ≠ gb253))) (fun _ hk => hk.2) (.int .i64 a0_0)) (fun _ hk => hk.2) (.slice Ao26 t263.length co26)) (fun _ hk => hk.2) (.slice Ao25 t266.length co25)) (fun _ hk => hk.2) (.slice Ao24 t269.length co24)) (fun _ hk => hk.2) (.slice Ao23 t272.length co23)) (fun _ hk => hk.2) (.slice Ao22 t260.length co22)) (fun _ hk => hk.1.1),by (with_reducible repeat (first | apply Kd.V_alloc | apply Kd.V_drewN | apply Kd.V_drew));exact Kd.V_mono (Kd.V_far (p:=⟨gb253,5,none⟩) (Kd.V_far (p:=⟨gb253,4,none⟩) (Kd.V_far (p:=⟨gb253,3,none⟩) (Kd.V_far (p:=⟨gb253,2,none⟩) (Kd.V_far (p:=⟨gb253,1,none⟩) (Kd.V_far (p:=⟨gb253,0,none⟩) (Kd.V_mono HO271.out (fun k_ hk => (⟨hk,hk.2.2.2⟩ : _ ∧ k_ ≠ gb253))) (fun _ hk => hk.2) (.int .i64 a0_0)) (fun _ hk => hk.2) (.slice Ao26 t263.length co26)) (fun _ hk => hk.2) (.slice Ao25 t266.length co25)) (fun _ hk => hk.2) (.slice Ao24 t269.length co24)) (fun _ hk => hk.2) (.slice Ao23 t272.length co23)) (fun _ hk => hk.2) (.slice Ao22 t260.length co22)) (fun _ hk => hk.1.1),by (with_reducible repeat (first | apply Kd.V_alloc | apply Kd.V_drewN | apply Kd.V_drew));exact Kd.V_mono (Kd.V_far (p:=⟨gb253,5,none⟩) (Kd.V_far (p:=⟨gb253,4,none⟩) (Kd.V_far (p:=⟨gb253,3,none⟩) (Kd.V_far (p:=⟨gb253,2,none⟩) (Kd.V_far (p:=⟨gb253,1,none⟩) (Kd.V_far (p:=⟨gb253,0,none⟩) (Kd.V_mono HO274.out (fun k_ hk => (⟨hk,hk.2.2.2⟩ : _ ∧ k_ ≠ gb253))) (fun _ hk => hk.2) (.int .i64 a0_0)) (fun _ hk => hk.2) (.slice Ao26 t263.length co26)) (fun _ hk => hk.2) (.slice Ao25 t266.length co25)) (fun _ hk => hk.2) (.slice Ao24 t269.length co24)) (fun _ hk => hk.2) (.slice Ao23 t272.length co23)) (fun _ hk => hk.2) (.slice Ao22 t260.length co22)) (fun _ hk => hk.1.1),by (with_reducible repeat (first | apply Kd.V_alloc | apply Kd.V_drewN | apply Kd.V_drew));exact Kd.V_mono (Kd.V_far (p:=⟨gb253,5,none⟩) (Kd.V_far (p:=⟨gb253,4,none⟩) (Kd.V_far (p:=⟨gb253,3,none⟩) (Kd.V_far (p:=⟨gb253,2,none⟩) (Kd.V_far (p:=⟨gb253,1,none⟩) (Kd.V_far (p:=⟨gb253,0,none⟩) (Kd.V_mono HO262.out (fun k_ hk => (⟨hk,hk.2.2⟩ : _ ∧ k_ ≠ gb253))) (fun _ hk => hk.2) (.int .i64 a0_0)) (fun _ hk => hk.2) (.slice Ao26 t263.length co26)) (fun _ hk => hk.2) (.slice Ao25 t266.length co25)) (fun _ hk => hk.2) (.slice Ao24 t269.length co24)) (fun _ hk => hk.2) (.slice Ao23 t272.length co23)) (fun _ hk => hk.2) (.slice Ao22 t260.length co22)) (fun _ hk => hk.1.1),by repeat (first | (with_reducible first | exact HB.out | apply below_alloc | apply pw_below_drewN | apply below_drew1 | refine below_set ?_ GE252.out | refine below_set ?_ GE253.out) | exact HB.out)⟩
 ·rw [if_neg c2] at H
  exact absurd H (by simp)

/-! ### impl_ShelfFunc: function 18 -/
def impl_ShelfFunc.f (l0 : List (S55)) (a1 : Int) (a2 : Int) : Option (Int × List ByteArray × List ByteArray × List ByteArray × List Int × (List (S83)) × Bool):=if a1 < 0 then (some (0,([] : List ByteArray),([] : List ByteArray),([] : List ByteArray),([] : List Int),([] : List (S83)),false)) else (if a1 ≥ (l0.length : Int) then (some (0,([] : List ByteArray),([] : List ByteArray),([] : List ByteArray),([] : List Int),([] : List (S83)),false)) else (if a2 < 0 then (some (0,([] : List ByteArray),([] : List ByteArray),([] : List ByteArray),([] : List Int),([] : List (S83)),false)) else (if 0 ≤ a1 then (if a1 < (l0.length : Int) then (if a2 ≥ (((rd_T55 l0 a1).f1).length : Int) then (some (0,([] : List ByteArray),([] : List ByteArray),([] : List ByteArray),([] : List Int),([] : List (S83)),false)) else (if 0 ≤ a2 then (if a2 < (((rd_T55 l0 a1).f1).length : Int) then ((impl_copyFunc.f ((rd_T39 ((rd_T55 l0 a1).f1) a2).f0) ((rd_T39 ((rd_T55 l0 a1).f1) a2).f1) ((rd_T39 ((rd_T55 l0 a1).f1) a2).f2) ((rd_T39 ((rd_T55 l0 a1).f1) a2).f3) ((rd_T39 ((rd_T55 l0 a1).f1) a2).f4) ((rd_T39 ((rd_T55 l0 a1).f1) a2).f5)).bind fun bt279 => (some (bt279.1,bt279.2.1,bt279.2.2.1,bt279.2.2.2.1,bt279.2.2.2.2.1,bt279.2.2.2.2.2,true))) else (none)) else (none))) else (none)) else (none))))
set_option maxHeartbeats 8000000 in
set_option maxRecDepth 100000 in
theorem impl_ShelfFunc.calls (A0 : Option Addr) (c0 : Nat) (l0 : List (S55)) (a1 : Int) (a2 : Int) (r1 : Int) (r2 : List ByteArray) (r3 : List ByteArray) (r4 : List ByteArray) (r5 : List Int) (r6 : List (S83)) (r7 : Bool) (w : World) (hr0 : Kd.C k55 w A0 l0.length l0) (hc0 : l0.length ≤ c0) (h : impl_ShelfFunc.f l0 a1 a2 = some (r1,r2,r3,r4,r5,r6,r7)) :
  Calls Try.prog 18 #[.slice A0 l0.length c0,.int .i64 a1,.int .i64 a2] w fun e w' => ∃ v1_ v2_ v3_ v4_ v5_ : Value,e = .returned (.tuple #[.agg #[.int .i64 r1,v1_,v2_,v3_,v4_,v5_],.bool r7]) ∧ Kd.V Kd.string 9 w' w.heap.size (fun k_ => (w.heap.size ≤ k_)) v1_ r2 ∧ Kd.V Kd.string 9 w' w.heap.size (fun k_ => (w.heap.size ≤ k_)) v2_ r3 ∧ Kd.V Kd.string 9 w' w.heap.size (fun k_ => (w.heap.size ≤ k_)) v3_ r4 ∧ Kd.V (Kd.int .i64) 3 w' w.heap.size (fun k_ => (w.heap.size ≤ k_)) v4_ r5 ∧ Kd.V k83 83 w' w.heap.size (fun k_ => (w.heap.size ≤ k_)) v5_ r6 ∧ Below w.heap.size w w':=by
 have hu39:=Try.underlying39
 have HR0:=Aside0.mk hr0
 have HC0:=Aside0.mk hc0
 clear hr0 hc0
 have HB:=Aside0.mk (Below.refl w.heap.size w)
 have H : (if a1 < 0 then (some (0,([] : List ByteArray),([] : List ByteArray),([] : List ByteArray),([] : List Int),([] : List (S83)),false)) else (if a1 ≥ (l0.length : Int) then (some (0,([] : List ByteArray),([] : List ByteArray),([] : List ByteArray),([] : List Int),([] : List (S83)),false)) else (if a2 < 0 then (some (0,([] : List ByteArray),([] : List ByteArray),([] : List ByteArray),([] : List Int),([] : List (S83)),false)) else (if 0 ≤ a1 then (if a1 < (l0.length : Int) then (if a2 ≥ (((rd_T55 l0 a1).f1).length : Int) then (some (0,([] : List ByteArray),([] : List ByteArray),([] : List ByteArray),([] : List Int),([] : List (S83)),false)) else (if 0 ≤ a2 then (if a2 < (((rd_T55 l0 a1).f1).length : Int) then ((impl_copyFunc.f ((rd_T39 ((rd_T55 l0 a1).f1) a2).f0) ((rd_T39 ((rd_T55 l0 a1).f1) a2).f1) ((rd_T39 ((rd_T55 l0 a1).f1) a2).f2) ((rd_T39 ((rd_T55 l0 a1).f1) a2).f3) ((rd_T39 ((rd_T55 l0 a1).f1) a2).f4) ((rd_T39 ((rd_T55 l0 a1).f1) a2).f5)).bind fun bt279 => (some (bt279.1,bt279.2.1,bt279.2.2.1,bt279.2.2.2.1,bt279.2.2.2.2.1,bt279.2.2.2.2.2,true))) else (none)) else (none))) else (none)) else (none))))) = some (r1,r2,r3,r4,r5,r6,r7):=h
 clear h
 by_cases c4 : a1 < 0
 ·rw [if_pos c4] at H
  have c4b0 : decide (a1 < 0) = true:=decide_eq_true c4
  clear c4
  simp only [Option.some.injEq,Prod.mk.injEq] at H
  obtain ⟨rfl,rfl,rfl,rfl,rfl,rfl,rfl⟩:=H
  go_enter Try.func18,Try.ntmps18
  go_wp2_with (first | ((with_reducible refine gate_dst (N:=6) rfl ?_);(try (refine gate_guard (by rfl) ?_;dsimp only));refine box_event ?hg (N:=6) ?hd (cs:=#[.int .i64 0,.slice none 0 0,.slice none 0 0,.slice none 0 0,.slice none 0 0,.slice none 0 0]) (t:=39) ?hr ?_;(case hd => rfl);(case hg => rfl);(case hr => first | (go_simp;done) | (go_simp;rfl));intro gb275 hg w5 hbox hb;have n0_:=Up.BB HB hb;have n1_:=Aside0.mk (hbox);have n2_:=Aside0.mk ((by rw [hg];exact (below_size (Up.Bup HB)) : w.heap.size ≤ gb275));have n3_:=Aside0.mk ((by rw [hg];exact (below_size (Up.Bup HB)) : w.heap.size ≤ gb275));clear HB;have HB:=n0_;have BK275:=n1_;have GW275:=n2_;have GE275:=n3_;clear n0_ n1_ n2_ n3_;clear hb hbox hg;have hcz6_0 : w5.cell? ⟨gb275,0,none⟩ = some (.int .i64 0):=(blk_cell BK275.out 0).trans rfl;have hcz6_1 : w5.cell? ⟨gb275,1,none⟩ = some (.slice none 0 0):=(blk_cell BK275.out 1).trans rfl;have hcz6_2 : w5.cell? ⟨gb275,2,none⟩ = some (.slice none 0 0):=(blk_cell BK275.out 2).trans rfl;have hcz6_3 : w5.cell? ⟨gb275,3,none⟩ = some (.slice none 0 0):=(blk_cell BK275.out 3).trans rfl;have hcz6_4 : w5.cell? ⟨gb275,4,none⟩ = some (.slice none 0 0):=(blk_cell BK275.out 4).trans rfl;have hcz6_5 : w5.cell? ⟨gb275,5,none⟩ = some (.slice none 0 0):=(blk_cell BK275.out 5).trans rfl;have hfz6_0:=blk_frozen BK275.out 0;have hfz6_1:=blk_frozen BK275.out 1;have hfz6_2:=blk_frozen BK275.out 2;have hfz6_3:=blk_frozen BK275.out 3;have hfz6_4:=blk_frozen BK275.out 4;have hfz6_5:=blk_frozen BK275.out 5))
  refine bodyPost_ret (results_ct rfl _ _ gb275 39 #[.int .i64 0,.slice none 0 0,.slice none 0 0,.slice none 0 0,.slice none 0 0,.slice none 0 0] (0,0) _ rfl (by (with_reducible repeat (first | refine blk_drewN ?_ _ | refine blk_drew ?_ | refine blk_alloc ?_ _));refine blk_put (cs:=#[.int .i64 0,.slice none 0 0,.slice none 0 0,.slice none 0 0,.slice none 0 0,.slice none 0 0]) ?_ 5 _ rfl;(with_reducible repeat (first | refine blk_drewN ?_ _ | refine blk_drew ?_ | refine blk_alloc ?_ _));refine blk_put (cs:=#[.int .i64 0,.slice none 0 0,.slice none 0 0,.slice none 0 0,.slice none 0 0,.slice none 0 0]) ?_ 4 _ rfl;(with_reducible repeat (first | refine blk_drewN ?_ _ | refine blk_drew ?_ | refine blk_alloc ?_ _));refine blk_put (cs:=#[.int .i64 0,.slice none 0 0,.slice none 0 0,.slice none 0 0,.slice none 0 0,.slice none 0 0]) ?_ 3 _ rfl;(with_reducible repeat (first | refine blk_drewN ?_ _ | refine blk_drew ?_ | refine blk_alloc ?_ _));refine blk_put (cs:=#[.int .i64 0,.slice none 0 0,.slice none 0 0,.slice none 0 0,.slice none 0 0,.slice none 0 0]) ?_ 2 _ rfl;(with_reducible repeat (first | refine blk_drewN ?_ _ | refine blk_drew ?_ | refine blk_alloc ?_ _));refine blk_put (cs:=#[.int .i64 0,.slice none 0 0,.slice none 0 0,.slice none 0 0,.slice none 0 0,.slice none 0 0]) ?_ 1 _ rfl;(with_reducible repeat (first | refine blk_drewN ?_ _ | refine blk_drew ?_ | refine blk_alloc ?_ _));refine blk_put (cs:=#[.int .i64 0,.slice none 0 0,.slice none 0 0,.slice none 0 0,.slice none 0 0,.slice none 0 0]) ?_ 0 _ rfl;(with_reducible repeat (first | refine blk_drewN ?_ _ | refine blk_drew ?_ | refine blk_alloc ?_ _));exact BK275.out) Try.underlying39 rfl (by kernel_rfl)) rfl ?_
  exact ⟨_,_,_,_,_,by first | rfl | (simp [errW_none,errW_some] <;> rfl) | (simp [*,errW_none,errW_some] <;> rfl),(Kd.V_nil _ _ _ _ _),(Kd.V_nil _ _ _ _ _),(Kd.V_nil _ _ _ _ _),(Kd.V_nil _ _ _ _ _),(Kd.V_nil _ _ _ _ _),by repeat (first | (with_reducible first | exact HB.out | apply below_alloc | apply pw_below_drewN | apply below_drew1 | refine below_set ?_ GE275.out) | exact HB.out)⟩
 ·rw [if_neg c4] at H
  have c4b0 : decide (a1 < 0) = false:=decide_eq_false c4
  clear c4
  by_cases c7 : a1 ≥ (l0.length : Int)
  ·rw [if_pos c7] at H
   have c7b0 : decide ((l0.length : Int) ≤ a1) = true:=decide_eq_true c7
   clear c7
   simp only [Option.some.injEq,Prod.mk.injEq] at H
   obtain ⟨rfl,rfl,rfl,rfl,rfl,rfl,rfl⟩:=H
   go_enter Try.func18,Try.ntmps18
   go_wp2_with (first | ((with_reducible refine gate_dst (N:=6) rfl ?_);(try (refine gate_guard (by rfl) ?_;dsimp only));refine box_event ?hg (N:=6) ?hd (cs:=#[.int .i64 0,.slice none 0 0,.slice none 0 0,.slice none 0 0,.slice none 0 0,.slice none 0 0]) (t:=39) ?hr ?_;(case hd => rfl);(case hg => rfl);(case hr => first | (go_simp;done) | (go_simp;rfl));intro gb275 hg w8 hbox hb;have n0_:=Up.BB HB hb;have n1_:=Aside0.mk (hbox);have n2_:=Aside0.mk ((by rw [hg];exact (below_size (Up.Bup HB)) : w.heap.size ≤ gb275));have n3_:=Aside0.mk ((by rw [hg];exact (below_size (Up.Bup HB)) : w.heap.size ≤ gb275));clear HB;have HB:=n0_;have BK275:=n1_;have GW275:=n2_;have GE275:=n3_;clear n0_ n1_ n2_ n3_;clear hb hbox hg;have hcz9_0 : w8.cell? ⟨gb275,0,none⟩ = some (.int .i64 0):=(blk_cell BK275.out 0).trans rfl;have hcz9_1 : w8.cell? ⟨gb275,1,none⟩ = some (.slice none 0 0):=(blk_cell BK275.out 1).trans rfl;have hcz9_2 : w8.cell? ⟨gb275,2,none⟩ = some (.slice none 0 0):=(blk_cell BK275.out 2).trans rfl;have hcz9_3 : w8.cell? ⟨gb275,3,none⟩ = some (.slice none 0 0):=(blk_cell BK275.out 3).trans rfl;have hcz9_4 : w8.cell? ⟨gb275,4,none⟩ = some (.slice none 0 0):=(blk_cell BK275.out 4).trans rfl;have hcz9_5 : w8.cell? ⟨gb275,5,none⟩ = some (.slice none 0 0):=(blk_cell BK275.out 5).trans rfl;have hfz9_0:=blk_frozen BK275.out 0;have hfz9_1:=blk_frozen BK275.out 1;have hfz9_2:=blk_frozen BK275.out 2;have hfz9_3:=blk_frozen BK275.out 3;have hfz9_4:=blk_frozen BK275.out 4;have hfz9_5:=blk_frozen BK275.out 5))
   refine bodyPost_ret (results_ct rfl _ _ gb275 39 #[.int .i64 0,.slice none 0 0,.slice none 0 0,.slice none 0 0,.slice none 0 0,.slice none 0 0] (0,0) _ rfl (by (with_reducible repeat (first | refine blk_drewN ?_ _ | refine blk_drew ?_ | refine blk_alloc ?_ _));refine blk_put (cs:=#[.int .i64 0,.slice none 0 0,.slice none 0 0,.slice none 0 0,.slice none 0 0,.slice none 0 0]) ?_ 5 _ rfl;(with_reducible repeat (first | refine blk_drewN ?_ _ | refine blk_drew ?_ | refine blk_alloc ?_ _));refine blk_put (cs:=#[.int .i64 0,.slice none 0 0,.slice none 0 0,.slice none 0 0,.slice none 0 0,.slice none 0 0]) ?_ 4 _ rfl;(with_reducible repeat (first | refine blk_drewN ?_ _ | refine blk_drew ?_ | refine blk_alloc ?_ _));refine blk_put (cs:=#[.int .i64 0,.slice none 0 0,.slice none 0 0,.slice none 0 0,.slice none 0 0,.slice none 0 0]) ?_ 3 _ rfl;(with_reducible repeat (first | refine blk_drewN ?_ _ | refine blk_drew ?_ | refine blk_alloc ?_ _));refine blk_put (cs:=#[.int .i64 0,.slice none 0 0,.slice none 0 0,.slice none 0 0,.slice none 0 0,.slice none 0 0]) ?_ 2 _ rfl;(with_reducible repeat (first | refine blk_drewN ?_ _ | refine blk_drew ?_ | refine blk_alloc ?_ _));refine blk_put (cs:=#[.int .i64 0,.slice none 0 0,.slice none 0 0,.slice none 0 0,.slice none 0 0,.slice none 0 0]) ?_ 1 _ rfl;(with_reducible repeat (first | refine blk_drewN ?_ _ | refine blk_drew ?_ | refine blk_alloc ?_ _));refine blk_put (cs:=#[.int .i64 0,.slice none 0 0,.slice none 0 0,.slice none 0 0,.slice none 0 0,.slice none 0 0]) ?_ 0 _ rfl;(with_reducible repeat (first | refine blk_drewN ?_ _ | refine blk_drew ?_ | refine blk_alloc ?_ _));exact BK275.out) Try.underlying39 rfl (by kernel_rfl)) rfl ?_
   exact ⟨_,_,_,_,_,by first | rfl | (simp [errW_none,errW_some] <;> rfl) | (simp [*,errW_none,errW_some] <;> rfl),(Kd.V_nil _ _ _ _ _),(Kd.V_nil _ _ _ _ _),(Kd.V_nil _ _ _ _ _),(Kd.V_nil _ _ _ _ _),(Kd.V_nil _ _ _ _ _),by repeat (first | (with_reducible first | exact HB.out | apply below_alloc | apply pw_below_drewN | apply below_drew1 | refine below_set ?_ GE275.out) | exact HB.out)⟩
  ·rw [if_neg c7] at H
   have c7b0 : decide ((l0.length : Int) ≤ a1) = false:=decide_eq_false c7
   clear c7
   by_cases c10 : a2 < 0
   ·rw [if_pos c10] at H
    have c10b0 : decide (a2 < 0) = true:=decide_eq_true c10
    clear c10
    simp only [Option.some.injEq,Prod.mk.injEq] at H
    obtain ⟨rfl,rfl,rfl,rfl,rfl,rfl,rfl⟩:=H
    go_enter Try.func18,Try.ntmps18
    go_wp2_with (first | ((with_reducible refine gate_dst (N:=6) rfl ?_);(try (refine gate_guard (by rfl) ?_;dsimp only));refine box_event ?hg (N:=6) ?hd (cs:=#[.int .i64 0,.slice none 0 0,.slice none 0 0,.slice none 0 0,.slice none 0 0,.slice none 0 0]) (t:=39) ?hr ?_;(case hd => rfl);(case hg => rfl);(case hr => first | (go_simp;done) | (go_simp;rfl));intro gb275 hg w11 hbox hb;have n0_:=Up.BB HB hb;have n1_:=Aside0.mk (hbox);have n2_:=Aside0.mk ((by rw [hg];exact (below_size (Up.Bup HB)) : w.heap.size ≤ gb275));have n3_:=Aside0.mk ((by rw [hg];exact (below_size (Up.Bup HB)) : w.heap.size ≤ gb275));clear HB;have HB:=n0_;have BK275:=n1_;have GW275:=n2_;have GE275:=n3_;clear n0_ n1_ n2_ n3_;clear hb hbox hg;have hcz12_0 : w11.cell? ⟨gb275,0,none⟩ = some (.int .i64 0):=(blk_cell BK275.out 0).trans rfl;have hcz12_1 : w11.cell? ⟨gb275,1,none⟩ = some (.slice none 0 0):=(blk_cell BK275.out 1).trans rfl;have hcz12_2 : w11.cell? ⟨gb275,2,none⟩ = some (.slice none 0 0):=(blk_cell BK275.out 2).trans rfl;have hcz12_3 : w11.cell? ⟨gb275,3,none⟩ = some (.slice none 0 0):=(blk_cell BK275.out 3).trans rfl;have hcz12_4 : w11.cell? ⟨gb275,4,none⟩ = some (.slice none 0 0):=(blk_cell BK275.out 4).trans rfl;have hcz12_5 : w11.cell? ⟨gb275,5,none⟩ = some (.slice none 0 0):=(blk_cell BK275.out 5).trans rfl;have hfz12_0:=blk_frozen BK275.out 0;have hfz12_1:=blk_frozen BK275.out 1;have hfz12_2:=blk_frozen BK275.out 2;have hfz12_3:=blk_frozen BK275.out 3;have hfz12_4:=blk_frozen BK275.out 4;have hfz12_5:=blk_frozen BK275.out 5))
    refine bodyPost_ret (results_ct rfl _ _ gb275 39 #[.int .i64 0,.slice none 0 0,.slice none 0 0,.slice none 0 0,.slice none 0 0,.slice none 0 0] (0,0) _ rfl (by (with_reducible repeat (first | refine blk_drewN ?_ _ | refine blk_drew ?_ | refine blk_alloc ?_ _));refine blk_put (cs:=#[.int .i64 0,.slice none 0 0,.slice none 0 0,.slice none 0 0,.slice none 0 0,.slice none 0 0]) ?_ 5 _ rfl;(with_reducible repeat (first | refine blk_drewN ?_ _ | refine blk_drew ?_ | refine blk_alloc ?_ _));refine blk_put (cs:=#[.int .i64 0,.slice none 0 0,.slice none 0 0,.slice none 0 0,.slice none 0 0,.slice none 0 0]) ?_ 4 _ rfl;(with_reducible repeat (first | refine blk_drewN ?_ _ | refine blk_drew ?_ | refine blk_alloc ?_ _));refine blk_put (cs:=#[.int .i64 0,.slice none 0 0,.slice none 0 0,.slice none 0 0,.slice none 0 0,.slice none 0 0]) ?_ 3 _ rfl;(with_reducible repeat (first | refine blk_drewN ?_ _ | refine blk_drew ?_ | refine blk_alloc ?_ _));refine blk_put (cs:=#[.int .i64 0,.slice none 0 0,.slice none 0 0,.slice none 0 0,.slice none 0 0,.slice none 0 0]) ?_ 2 _ rfl;(with_reducible repeat (first | refine blk_drewN ?_ _ | refine blk_drew ?_ | refine blk_alloc ?_ _));refine blk_put (cs:=#[.int .i64 0,.slice none 0 0,.slice none 0 0,.slice none 0 0,.slice none 0 0,.slice none 0 0]) ?_ 1 _ rfl;(with_reducible repeat (first | refine blk_drewN ?_ _ | refine blk_drew ?_ | refine blk_alloc ?_ _));refine blk_put (cs:=#[.int .i64 0,.slice none 0 0,.slice none 0 0,.slice none 0 0,.slice none 0 0,.slice none 0 0]) ?_ 0 _ rfl;(with_reducible repeat (first | refine blk_drewN ?_ _ | refine blk_drew ?_ | refine blk_alloc ?_ _));exact BK275.out) Try.underlying39 rfl (by kernel_rfl)) rfl ?_
    exact ⟨_,_,_,_,_,by first | rfl | (simp [errW_none,errW_some] <;> rfl) | (simp [*,errW_none,errW_some] <;> rfl),(Kd.V_nil _ _ _ _ _),(Kd.V_nil _ _ _ _ _),(Kd.V_nil _ _ _ _ _),(Kd.V_nil _ _ _ _ _),(Kd.V_nil _ _ _ _ _),by repeat (first | (with_reducible first | exact HB.out | apply below_alloc | apply pw_below_drewN | apply below_drew1 | refine below_set ?_ GE275.out) | exact HB.out)⟩
   ·rw [if_neg c10] at H
    have c10b0 : decide (a2 < 0) = false:=decide_eq_false c10
    clear c10
    by_cases c13 : 0 ≤ a1
    ·rw [if_pos c13] at H
     have c13b0 : decide (0 ≤ a1) = true:=decide_eq_true c13
     clear c13
     by_cases c14 : a1 < (l0.length : Int)
     ·rw [if_pos c14] at H
      have c14b0 : decide (a1 < (l0.length : Int)) = true:=decide_eq_true c14
      clear c14
      by_cases c15 : a2 ≥ (((rd_T55 l0 a1).f1).length : Int)
      ·rw [if_pos c15] at H
       have c15b0 : decide ((((rd_T55 l0 a1).f1).length : Int) ≤ a2) = true:=decide_eq_true c15
       clear c15
       simp only [Option.some.injEq,Prod.mk.injEq] at H
       obtain ⟨rfl,rfl,rfl,rfl,rfl,rfl,rfl⟩:=H
       go_enter Try.func18,Try.ntmps18
       go_wp2_with (first | ((with_reducible refine gate_dst (N:=6) rfl ?_);(try (refine gate_guard (by rfl) ?_;dsimp only));refine box_event ?hg (N:=6) ?hd (cs:=#[.int .i64 0,.slice none 0 0,.slice none 0 0,.slice none 0 0,.slice none 0 0,.slice none 0 0]) (t:=39) ?hr ?_;(case hd => rfl);(case hg => rfl);(case hr => first | (go_simp;done) | (go_simp;rfl));intro gb275 hg w16 hbox hb;have n0_:=Up.BB HB hb;have n1_:=Aside0.mk (hbox);have n2_:=Aside0.mk ((by rw [hg];exact (below_size (Up.Bup HB)) : w.heap.size ≤ gb275));have n3_:=Aside0.mk ((by rw [hg];exact (below_size (Up.Bup HB)) : w.heap.size ≤ gb275));clear HB;have HB:=n0_;have BK275:=n1_;have GW275:=n2_;have GE275:=n3_;clear n0_ n1_ n2_ n3_;clear hb hbox hg;have p276 : 0 ≤ (a1 : Int):=of_decide_eq_true (by first | (with_reducible assumption) | assumption);have q276 : a1 < (l0.length : Int):=of_decide_eq_true (by first | (with_reducible assumption) | assumption);obtain ⟨ad276,A276_0,c276_0,A276_1,c276_1,A276_2,c276_2,e276,hx276_0,hx276_1,hx276_2,hl276_0,hi276_0,hl276_1,hi276_1,hl276_2,hi276_2⟩:=at_T55 HR0.out a1 p276 q276;cases e276;replace hx276_0:=(HB.out.cell (World.block_lt_of_cell? w _ hx276_0)).trans hx276_0;replace hx276_1:=(HB.out.cell (World.block_lt_of_cell? w _ hx276_1)).trans hx276_1;replace hx276_2:=(HB.out.cell (World.block_lt_of_cell? w _ hx276_2)).trans hx276_2;have HR276_0:=Aside0.mk hi276_0;have HC276_0:=Aside0.mk hl276_0;clear hi276_0 hl276_0;have HR276_1:=Aside0.mk hi276_1;have HC276_1:=Aside0.mk hl276_1;clear hi276_1 hl276_1;have HR276_2:=Aside0.mk hi276_2;have HC276_2:=Aside0.mk hl276_2;clear hi276_2 hl276_2;replace p276:=eq_true p276;replace q276:=eq_true q276;have hcz17_0 : w16.cell? ⟨gb275,0,none⟩ = some (.int .i64 0):=(blk_cell BK275.out 0).trans rfl;have hcz17_1 : w16.cell? ⟨gb275,1,none⟩ = some (.slice none 0 0):=(blk_cell BK275.out 1).trans rfl;have hcz17_2 : w16.cell? ⟨gb275,2,none⟩ = some (.slice none 0 0):=(blk_cell BK275.out 2).trans rfl;have hcz17_3 : w16.cell? ⟨gb275,3,none⟩ = some (.slice none 0 0):=(blk_cell BK275.out 3).trans rfl;have hcz17_4 : w16.cell? ⟨gb275,4,none⟩ = some (.slice none 0 0):=(blk_cell BK275.out 4).trans rfl;have hcz17_5 : w16.cell? ⟨gb275,5,none⟩ = some (.slice none 0 0):=(blk_cell BK275.out 5).trans rfl;have hfz17_0:=blk_frozen BK275.out 0;have hfz17_1:=blk_frozen BK275.out 1;have hfz17_2:=blk_frozen BK275.out 2;have hfz17_3:=blk_frozen BK275.out 3;have hfz17_4:=blk_frozen BK275.out 4;have hfz17_5:=blk_frozen BK275.out 5))
       refine bodyPost_ret (results_ct rfl _ _ gb275 39 #[.int .i64 0,.slice none 0 0,.slice none 0 0,.slice none 0 0,.slice none 0 0,.slice none 0 0] (0,0) _ rfl (by (with_reducible repeat (first | refine blk_drewN ?_ _ | refine blk_drew ?_ | refine blk_alloc ?_ _));refine blk_put (cs:=#[.int .i64 0,.slice none 0 0,.slice none 0 0,.slice none 0 0,.slice none 0 0,.slice none 0 0]) ?_ 5 _ rfl;(with_reducible repeat (first | refine blk_drewN ?_ _ | refine blk_drew ?_ | refine blk_alloc ?_ _));refine blk_put (cs:=#[.int .i64 0,.slice none 0 0,.slice none 0 0,.slice none 0 0,.slice none 0 0,.slice none 0 0]) ?_ 4 _ rfl;(with_reducible repeat (first | refine blk_drewN ?_ _ | refine blk_drew ?_ | refine blk_alloc ?_ _));refine blk_put (cs:=#[.int .i64 0,.slice none 0 0,.slice none 0 0,.slice none 0 0,.slice none 0 0,.slice none 0 0]) ?_ 3 _ rfl;(with_reducible repeat (first | refine blk_drewN ?_ _ | refine blk_drew ?_ | refine blk_alloc ?_ _));refine blk_put (cs:=#[.int .i64 0,.slice none 0 0,.slice none 0 0,.slice none 0 0,.slice none 0 0,.slice none 0 0]) ?_ 2 _ rfl;(with_reducible repeat (first | refine blk_drewN ?_ _ | refine blk_drew ?_ | refine blk_alloc ?_ _));refine blk_put (cs:=#[.int .i64 0,.slice none 0 0,.slice none 0 0,.slice none 0 0,.slice none 0 0,.slice none 0 0]) ?_ 1 _ rfl;(with_reducible repeat (first | refine blk_drewN ?_ _ | refine blk_drew ?_ | refine blk_alloc ?_ _));refine blk_put (cs:=#[.int .i64 0,.slice none 0 0,.slice none 0 0,.slice none 0 0,.slice none 0 0,.slice none 0 0]) ?_ 0 _ rfl;(with_reducible repeat (first | refine blk_drewN ?_ _ | refine blk_drew ?_ | refine blk_alloc ?_ _));exact BK275.out) Try.underlying39 rfl (by kernel_rfl)) rfl ?_
       exact ⟨_,_,_,_,_,by first | rfl | (simp [errW_none,errW_some] <;> rfl) | (simp [*,errW_none,errW_some] <;> rfl),(Kd.V_nil _ _ _ _ _),(Kd.V_nil _ _ _ _ _),(Kd.V_nil _ _ _ _ _),(Kd.V_nil _ _ _ _ _),(Kd.V_nil _ _ _ _ _),by repeat (first | (with_reducible first | exact HB.out | apply below_alloc | apply pw_below_drewN | apply below_drew1 | refine below_set ?_ GE275.out) | exact HB.out)⟩
      ·rw [if_neg c15] at H
       have c15b0 : decide ((((rd_T55 l0 a1).f1).length : Int) ≤ a2) = false:=decide_eq_false c15
       clear c15
       by_cases c18 : 0 ≤ a2
       ·rw [if_pos c18] at H
        have c18b0 : decide (0 ≤ a2) = true:=decide_eq_true c18
        clear c18
        by_cases c19 : a2 < (((rd_T55 l0 a1).f1).length : Int)
        ·rw [if_pos c19] at H
         have c19b0 : decide (a2 < (((rd_T55 l0 a1).f1).length : Int)) = true:=decide_eq_true c19
         clear c19
         replace H:=Option.bind_eq_some_iff.mp H
         obtain ⟨⟨t279,t280,t283,t286,t289,t292⟩,A200,H⟩:=H
         replace H : (some (t279,t280,t283,t286,t289,t292,true)) = some (r1,r2,r3,r4,r5,r6,r7):=H
         have A20:=Aside0.mk A200
         clear A200
         simp only [Option.some.injEq,Prod.mk.injEq] at H
         obtain ⟨rfl,rfl,rfl,rfl,rfl,rfl,rfl⟩:=H
         go_enter Try.func18,Try.ntmps18
         go_wp2_with (first | ((with_reducible refine gate_dst (N:=6) rfl ?_);(try (refine gate_guard (by rfl) ?_;dsimp only));refine box_event ?hg (N:=6) ?hd (cs:=#[.int .i64 0,.slice none 0 0,.slice none 0 0,.slice none 0 0,.slice none 0 0,.slice none 0 0]) (t:=39) ?hr ?_;(case hd => rfl);(case hg => rfl);(case hr => first | (go_simp;done) | (go_simp;rfl));intro gb275 hg w21 hbox hb;have n0_:=Up.BB HB hb;have n1_:=Aside0.mk (hbox);have n2_:=Aside0.mk ((by rw [hg];exact (below_size (Up.Bup HB)) : w.heap.size ≤ gb275));have n3_:=Aside0.mk ((by rw [hg];exact (below_size (Up.Bup HB)) : w.heap.size ≤ gb275));clear HB;have HB:=n0_;have BK275:=n1_;have GW275:=n2_;have GE275:=n3_;clear n0_ n1_ n2_ n3_;clear hb hbox hg;have p276 : 0 ≤ (a1 : Int):=of_decide_eq_true (by first | (with_reducible assumption) | assumption);have q276 : a1 < (l0.length : Int):=of_decide_eq_true (by first | (with_reducible assumption) | assumption);obtain ⟨ad276,A276_0,c276_0,A276_1,c276_1,A276_2,c276_2,e276,hx276_0,hx276_1,hx276_2,hl276_0,hi276_0,hl276_1,hi276_1,hl276_2,hi276_2⟩:=at_T55 HR0.out a1 p276 q276;cases e276;replace hx276_0:=(HB.out.cell (World.block_lt_of_cell? w _ hx276_0)).trans hx276_0;replace hx276_1:=(HB.out.cell (World.block_lt_of_cell? w _ hx276_1)).trans hx276_1;replace hx276_2:=(HB.out.cell (World.block_lt_of_cell? w _ hx276_2)).trans hx276_2;have HR276_0:=Aside0.mk hi276_0;have HC276_0:=Aside0.mk hl276_0;clear hi276_0 hl276_0;have HR276_1:=Aside0.mk hi276_1;have HC276_1:=Aside0.mk hl276_1;clear hi276_1 hl276_1;have HR276_2:=Aside0.mk hi276_2;have HC276_2:=Aside0.mk hl276_2;clear hi276_2 hl276_2;replace p276:=eq_true p276;replace q276:=eq_true q276;have p277 : 0 ≤ (a1 : Int):=of_decide_eq_true (by first | (with_reducible assumption) | assumption);have q277 : a1 < (l0.length : Int):=of_decide_eq_true (by first | (with_reducible assumption) | assumption);obtain ⟨ad277,A277_0,c277_0,A277_1,c277_1,A277_2,c277_2,e277,hx277_0,hx277_1,hx277_2,hl277_0,hi277_0,hl277_1,hi277_1,hl277_2,hi277_2⟩:=at_T55 HR0.out a1 p277 q277;obtain rfl : ad276 = ad277:=(by injection e277);replace hx277_0:=(HB.out.cell (World.block_lt_of_cell? w _ hx277_0)).trans hx277_0;replace hx277_1:=(HB.out.cell (World.block_lt_of_cell? w _ hx277_1)).trans hx277_1;replace hx277_2:=(HB.out.cell (World.block_lt_of_cell? w _ hx277_2)).trans hx277_2;have HR277_0:=Aside0.mk hi277_0;have HC277_0:=Aside0.mk hl277_0;clear hi277_0 hl277_0;have HR277_1:=Aside0.mk hi277_1;have HC277_1:=Aside0.mk hl277_1;clear hi277_1 hl277_1;have HR277_2:=Aside0.mk hi277_2;have HC277_2:=Aside0.mk hl277_2;clear hi277_2 hl277_2;replace p277:=eq_true p277;replace q277:=eq_true q277;have ea_:=Option.some.inj (hx276_0.symm.trans hx277_0);injection ea_ with ea_ en_ ec_;subst ea_;subst ec_;clear en_;have ea_:=Option.some.inj (hx276_1.symm.trans hx277_1);injection ea_ with ea_ en_ ec_;subst ea_;subst ec_;clear en_;have ea_:=Option.some.inj (hx276_2.symm.trans hx277_2);injection ea_ with ea_ en_ ec_;subst ea_;subst ec_;clear en_;have p278 : 0 ≤ (a2 : Int):=of_decide_eq_true (by first | (with_reducible assumption) | assumption);have q278 : a2 < (((rd_T55 l0 a1).f1).length : Int):=of_decide_eq_true (by first | (with_reducible assumption) | assumption);obtain ⟨ad278,A278_1,c278_1,A278_2,c278_2,A278_3,c278_3,A278_4,c278_4,A278_5,c278_5,e278,hx278_0,hx278_1,hx278_2,hx278_3,hx278_4,hx278_5,hl278_1,hi278_1,hl278_2,hi278_2,hl278_3,hi278_3,hl278_4,hi278_4,hl278_5,hi278_5⟩:=at_T39 HR277_1.out a2 p278 q278;cases e278;replace hx278_0:=(HB.out.cell (World.block_lt_of_cell? w _ hx278_0)).trans hx278_0;replace hx278_1:=(HB.out.cell (World.block_lt_of_cell? w _ hx278_1)).trans hx278_1;replace hx278_2:=(HB.out.cell (World.block_lt_of_cell? w _ hx278_2)).trans hx278_2;replace hx278_3:=(HB.out.cell (World.block_lt_of_cell? w _ hx278_3)).trans hx278_3;replace hx278_4:=(HB.out.cell (World.block_lt_of_cell? w _ hx278_4)).trans hx278_4;replace hx278_5:=(HB.out.cell (World.block_lt_of_cell? w _ hx278_5)).trans hx278_5;have HR278_1:=Aside0.mk hi278_1;have HC278_1:=Aside0.mk hl278_1;clear hi278_1 hl278_1;have HR278_2:=Aside0.mk hi278_2;have HC278_2:=Aside0.mk hl278_2;clear hi278_2 hl278_2;have HR278_3:=Aside0.mk hi278_3;have HC278_3:=Aside0.mk hl278_3;clear hi278_3 hl278_3;have HR278_4:=Aside0.mk hi278_4;have HC278_4:=Aside0.mk hl278_4;clear hi278_4 hl278_4;have HR278_5:=Aside0.mk hi278_5;have HC278_5:=Aside0.mk hl278_5;clear hi278_5 hl278_5;replace p278:=eq_true p278;replace q278:=eq_true q278) | ((with_reducible refine gate_callee (f:=37) rfl ?_);refine goesL_ (some 39) rfl rfl Try.func37 (by kernel_rfl) rfl #[.agg #[.int .i64 ((rd_T39 ((rd_T55 l0 a1).f1) a2).f0),.slice A278_1 ((rd_T39 ((rd_T55 l0 a1).f1) a2).f1).length c278_1,.slice A278_2 ((rd_T39 ((rd_T55 l0 a1).f1) a2).f2).length c278_2,.slice A278_3 ((rd_T39 ((rd_T55 l0 a1).f1) a2).f3).length c278_3,.slice A278_4 ((rd_T39 ((rd_T55 l0 a1).f1) a2).f4).length c278_4,.slice A278_5 ((rd_T39 ((rd_T55 l0 a1).f1) a2).f5).length c278_5]] rfl (by (try simp only [List.map_toArray,List.map_cons,List.map_nil]);first | done | rfl | (simp only [List.length_drop,List.length_take];rfl)) ?_;(with_reducible refine (impl_copyFunc.calls ((rd_T39 ((rd_T55 l0 a1).f1) a2).f0) _ _ ((rd_T39 ((rd_T55 l0 a1).f1) a2).f1) _ _ ((rd_T39 ((rd_T55 l0 a1).f1) a2).f2) _ _ ((rd_T39 ((rd_T55 l0 a1).f1) a2).f3) _ _ ((rd_T39 ((rd_T55 l0 a1).f1) a2).f4) _ _ ((rd_T39 ((rd_T55 l0 a1).f1) a2).f5) t279 t280 t283 t286 t289 t292 _ ?side1 ?side2 ?side3 ?side4 ?side5 ?side6 ?side7 ?side8 ?side9 ?side10 A20.out).mono ?_);(case side1 => repeat (first | exact (Kd.C_below HR278_1.out HB.out) | (with_reducible refine Kd.C_alloc ?_ _) | (with_reducible refine Kd.C_drewN ?_ _) | (with_reducible refine Kd.C_drew ?_)));(case side2 => exact HC278_1.out);(case side3 => repeat (first | exact (Kd.C_below HR278_2.out HB.out) | (with_reducible refine Kd.C_alloc ?_ _) | (with_reducible refine Kd.C_drewN ?_ _) | (with_reducible refine Kd.C_drew ?_)));(case side4 => exact HC278_2.out);(case side5 => repeat (first | exact (Kd.C_below HR278_3.out HB.out) | (with_reducible refine Kd.C_alloc ?_ _) | (with_reducible refine Kd.C_drewN ?_ _) | (with_reducible refine Kd.C_drew ?_)));(case side6 => exact HC278_3.out);(case side7 => repeat (first | exact (Kd.C_below HR278_4.out HB.out) | (with_reducible refine Kd.C_alloc ?_ _) | (with_reducible refine Kd.C_drewN ?_ _) | (with_reducible refine Kd.C_drew ?_)));(case side8 => exact HC278_4.out);(case side9 => repeat (first | exact (Kd.C_below HR278_5.out HB.out) | (with_reducible refine Kd.C_alloc ?_ _) | (with_reducible refine Kd.C_drewN ?_ _) | (with_reducible refine Kd.C_drew ?_)));(case side10 => exact HC278_5.out);rintro e w22 ⟨v281,v284,v287,v290,v293,rfl,ho0,ho1,ho2,ho3,ho4,hb⟩;refine ⟨_,rfl,?_⟩;have n0_:=Aside0.mk (Kd.V_lower (Kd.V_mono (ok':=fun k_ => (w.heap.size ≤ k_) ∧ k_ ≠ gb275) ho0 (fun k_ hk_ => ⟨(Nat.le_trans (below_size (by repeat (first | (with_reducible first | exact HB.out | apply below_alloc | apply pw_below_drewN | apply below_drew1 | refine below_set ?_ GE275.out) | exact HB.out))) hk_),(Kd.freshB (g:=gb275) (o:=.cells #[.int .i64 0,.slice none 0 0,.slice none 0 0,.slice none 0 0,.slice none 0 0,.slice none 0 0] 39 (0,0)) (Up.Kup BK275) k_ hk_)⟩)) (below_size (by repeat (first | (with_reducible first | exact HB.out | apply below_alloc | apply pw_below_drewN | apply below_drew1 | refine below_set ?_ GE275.out) | exact HB.out))));have n1_:=Aside0.mk (Kd.V_lower (Kd.V_mono (ok':=fun k_ => (w.heap.size ≤ k_) ∧ k_ ≠ gb275) ho1 (fun k_ hk_ => ⟨(Nat.le_trans (below_size (by repeat (first | (with_reducible first | exact HB.out | apply below_alloc | apply pw_below_drewN | apply below_drew1 | refine below_set ?_ GE275.out) | exact HB.out))) hk_),(Kd.freshB (g:=gb275) (o:=.cells #[.int .i64 0,.slice none 0 0,.slice none 0 0,.slice none 0 0,.slice none 0 0,.slice none 0 0] 39 (0,0)) (Up.Kup BK275) k_ hk_)⟩)) (below_size (by repeat (first | (with_reducible first | exact HB.out | apply below_alloc | apply pw_below_drewN | apply below_drew1 | refine below_set ?_ GE275.out) | exact HB.out))));have n2_:=Aside0.mk (Kd.V_lower (Kd.V_mono (ok':=fun k_ => (w.heap.size ≤ k_) ∧ k_ ≠ gb275) ho2 (fun k_ hk_ => ⟨(Nat.le_trans (below_size (by repeat (first | (with_reducible first | exact HB.out | apply below_alloc | apply pw_below_drewN | apply below_drew1 | refine below_set ?_ GE275.out) | exact HB.out))) hk_),(Kd.freshB (g:=gb275) (o:=.cells #[.int .i64 0,.slice none 0 0,.slice none 0 0,.slice none 0 0,.slice none 0 0,.slice none 0 0] 39 (0,0)) (Up.Kup BK275) k_ hk_)⟩)) (below_size (by repeat (first | (with_reducible first | exact HB.out | apply below_alloc | apply pw_below_drewN | apply below_drew1 | refine below_set ?_ GE275.out) | exact HB.out))));have n3_:=Aside0.mk (Kd.V_lower (Kd.V_mono (ok':=fun k_ => (w.heap.size ≤ k_) ∧ k_ ≠ gb275) ho3 (fun k_ hk_ => ⟨(Nat.le_trans (below_size (by repeat (first | (with_reducible first | exact HB.out | apply below_alloc | apply pw_below_drewN | apply below_drew1 | refine below_set ?_ GE275.out) | exact HB.out))) hk_),(Kd.freshB (g:=gb275) (o:=.cells #[.int .i64 0,.slice none 0 0,.slice none 0 0,.slice none 0 0,.slice none 0 0,.slice none 0 0] 39 (0,0)) (Up.Kup BK275) k_ hk_)⟩)) (below_size (by repeat (first | (with_reducible first | exact HB.out | apply below_alloc | apply pw_below_drewN | apply below_drew1 | refine below_set ?_ GE275.out) | exact HB.out))));have n4_:=Aside0.mk (Kd.V_lower (Kd.V_mono (ok':=fun k_ => (w.heap.size ≤ k_) ∧ k_ ≠ gb275) ho4 (fun k_ hk_ => ⟨(Nat.le_trans (below_size (by repeat (first | (with_reducible first | exact HB.out | apply below_alloc | apply pw_below_drewN | apply below_drew1 | refine below_set ?_ GE275.out) | exact HB.out))) hk_),(Kd.freshB (g:=gb275) (o:=.cells #[.int .i64 0,.slice none 0 0,.slice none 0 0,.slice none 0 0,.slice none 0 0,.slice none 0 0] 39 (0,0)) (Up.Kup BK275) k_ hk_)⟩)) (below_size (by repeat (first | (with_reducible first | exact HB.out | apply below_alloc | apply pw_below_drewN | apply below_drew1 | refine below_set ?_ GE275.out) | exact HB.out))));have n5_:=Up.KB BK275 hb;have n6_:=Aside0.mk (below_step (by repeat (first | (with_reducible first | exact HB.out | apply below_alloc | apply pw_below_drewN | apply below_drew1 | refine below_set ?_ GE275.out) | exact HB.out)) hb);clear BK275;clear HB;have HO282:=n0_;have HO285:=n1_;have HO288:=n2_;have HO291:=n3_;have HO294:=n4_;have BK275:=n5_;have HB:=n6_;clear n0_ n1_ n2_ n3_ n4_ n5_ n6_;(try clear hb);(try clear hb2);(try clear hk);(try clear hi);(try clear ho0);(try clear ho1);(try clear ho2);(try clear ho3);(try clear ho4);have hcz23_0 : w22.cell? ⟨gb275,0,none⟩ = some (.int .i64 0):=(blk_cell BK275.out 0).trans rfl;have hcz23_1 : w22.cell? ⟨gb275,1,none⟩ = some (.slice none 0 0):=(blk_cell BK275.out 1).trans rfl;have hcz23_2 : w22.cell? ⟨gb275,2,none⟩ = some (.slice none 0 0):=(blk_cell BK275.out 2).trans rfl;have hcz23_3 : w22.cell? ⟨gb275,3,none⟩ = some (.slice none 0 0):=(blk_cell BK275.out 3).trans rfl;have hcz23_4 : w22.cell? ⟨gb275,4,none⟩ = some (.slice none 0 0):=(blk_cell BK275.out 4).trans rfl;have hcz23_5 : w22.cell? ⟨gb275,5,none⟩ = some (.slice none 0 0):=(blk_cell BK275.out 5).trans rfl;have hfz23_0:=blk_frozen BK275.out 0;have hfz23_1:=blk_frozen BK275.out 1;have hfz23_2:=blk_frozen BK275.out 2;have hfz23_3:=blk_frozen BK275.out 3;have hfz23_4:=blk_frozen BK275.out 4;have hfz23_5:=blk_frozen BK275.out 5;obtain ⟨Ao24,co24,eo24⟩:=Kd.V_slice HO282.out;subst eo24;obtain ⟨Ao25,co25,eo25⟩:=Kd.V_slice HO285.out;subst eo25;obtain ⟨Ao26,co26,eo26⟩:=Kd.V_slice HO288.out;subst eo26;obtain ⟨Ao27,co27,eo27⟩:=Kd.V_slice HO291.out;subst eo27;obtain ⟨Ao28,co28,eo28⟩:=Kd.V_slice HO294.out;subst eo28))
         refine bodyPost_ret (results_ct rfl _ _ gb275 39 #[.int .i64 t279,.slice Ao24 t280.length co24,.slice Ao25 t283.length co25,.slice Ao26 t286.length co26,.slice Ao27 t289.length co27,.slice Ao28 t292.length co28] (0,0) _ rfl (by (with_reducible repeat (first | refine blk_drewN ?_ _ | refine blk_drew ?_ | refine blk_alloc ?_ _));refine blk_put (cs:=#[.int .i64 t279,.slice Ao24 t280.length co24,.slice Ao25 t283.length co25,.slice Ao26 t286.length co26,.slice Ao27 t289.length co27,.slice none 0 0]) ?_ 5 _ rfl;(with_reducible repeat (first | refine blk_drewN ?_ _ | refine blk_drew ?_ | refine blk_alloc ?_ _));refine blk_put (cs:=#[.int .i64 t279,.slice Ao24 t280.length co24,.slice Ao25 t283.length co25,.slice Ao26 t286.length co26,.slice none 0 0,.slice none 0 0]) ?_ 4 _ rfl;(with_reducible repeat (first | refine blk_drewN ?_ _ | refine blk_drew ?_ | refine blk_alloc ?_ _));refine blk_put (cs:=#[.int .i64 t279,.slice Ao24 t280.length co24,.slice Ao25 t283.length co25,.slice none 0 0,.slice none 0 0,.slice none 0 0]) ?_ 3 _ rfl;(with_reducible repeat (first | refine blk_drewN ?_ _ | refine blk_drew ?_ | refine blk_alloc ?_ _));refine blk_put (cs:=#[.int .i64 t279,.slice Ao24 t280.length co24,.slice none 0 0,.slice none 0 0,.slice none 0 0,.slice none 0 0]) ?_ 2 _ rfl;(with_reducible repeat (first | refine blk_drewN ?_ _ | refine blk_drew ?_ | refine blk_alloc ?_ _));refine blk_put (cs:=#[.int .i64 t279,.slice none 0 0,.slice none 0 0,.slice none 0 0,.slice none 0 0,.slice none 0 0]) ?_ 1 _ rfl;(with_reducible repeat (first | refine blk_drewN ?_ _ | refine blk_drew ?_ | refine blk_alloc ?_ _));refine blk_put (cs:=#[.int .i64 0,.slice none 0 0,.slice none 0 0,.slice none 0 0,.slice none 0 0,.slice none 0 0]) ?_ 0 _ rfl;(with_reducible repeat (first | refine blk_drewN ?_ _ | refine blk_drew ?_ | refine blk_alloc ?_ _));exact BK275.out) Try.underlying39 rfl (by kernel_rfl)) rfl ?_
         exact ⟨_,_,_,_,_,by first | rfl | (simp [errW_none,errW_some] <;> rfl) | (simp [*,errW_none,errW_some] <;> rfl),by (with_reducible repeat (first | apply Kd.V_alloc | apply Kd.V_drewN | apply Kd.V_drew));exact Kd.V_mono (Kd.V_far (p:=⟨gb275,5,none⟩) (Kd.V_far (p:=⟨gb275,4,none⟩) (Kd.V_far (p:=⟨gb275,3,none⟩) (Kd.V_far (p:=⟨gb275,2,none⟩) (Kd.V_far (p:=⟨gb275,1,none⟩) (Kd.V_far (p:=⟨gb275,0,none⟩) (Kd.V_mono HO282.out (fun k_ hk => (⟨hk,hk.2⟩ : _ ∧ k_ ≠ gb275))) (fun _ hk => hk.2) (.int .i64 t279)) (fun _ hk => hk.2) (.slice Ao24 t280.length co24)) (fun _ hk => hk.2) (.slice Ao25 t283.length co25)) (fun _ hk => hk.2) (.slice Ao26 t286.length co26)) (fun _ hk => hk.2) (.slice Ao27 t289.length co27)) (fun _ hk => hk.2) (.slice Ao28 t292.length co28)) (fun _ hk => hk.1.1),by (with_reducible repeat (first | apply Kd.V_alloc | apply Kd.V_drewN | apply Kd.V_drew));exact Kd.V_mono (Kd.V_far (p:=⟨gb275,5,none⟩) (Kd.V_far (p:=⟨gb275,4,none⟩) (Kd.V_far (p:=⟨gb275,3,none⟩) (Kd.V_far (p:=⟨gb275,2,none⟩) (Kd.V_far (p:=⟨gb275,1,none⟩) (Kd.V_far (p:=⟨gb275,0,none⟩) (Kd.V_mono HO285.out (fun k_ hk => (⟨hk,hk.2⟩ : _ ∧ k_ ≠ gb275))) (fun _ hk => hk.2) (.int .i64 t279)) (fun _ hk => hk.2) (.slice Ao24 t280.length co24)) (fun _ hk => hk.2) (.slice Ao25 t283.length co25)) (fun _ hk => hk.2) (.slice Ao26 t286.length co26)) (fun _ hk => hk.2) (.slice Ao27 t289.length co27)) (fun _ hk => hk.2) (.slice Ao28 t292.length co28)) (fun _ hk => hk.1.1),by (with_reducible repeat (first | apply Kd.V_alloc | apply Kd.V_drewN | apply Kd.V_drew));exact Kd.V_mono (Kd.V_far (p:=⟨gb275,5,none⟩) (Kd.V_far (p:=⟨gb275,4,none⟩) (Kd.V_far (p:=⟨gb275,3,none⟩) (Kd.V_far (p:=⟨gb275,2,none⟩) (Kd.V_far (p:=⟨gb275,1,none⟩) (Kd.V_far (p:=⟨gb275,0,none⟩) (Kd.V_mono HO288.out (fun k_ hk => (⟨hk,hk.2⟩ : _ ∧ k_ ≠ gb275))) (fun _ hk => hk.2) (.int .i64 t279)) (fun _ hk => hk.2) (.slice Ao24 t280.length co24)) (fun _ hk => hk.2) (.slice Ao25 t283.length co25)) (fun _ hk => hk.2) (.slice Ao26 t286.length co26)) (fun _ hk => hk.2) (.slice Ao27 t289.length co27)) (fun _ hk => hk.2) (.slice Ao28 t292.length co28)) (fun _ hk => hk.1.1),by (with_reducible repeat (first | apply Kd.V_alloc | apply Kd.V_drewN | apply Kd.V_drew));exact Kd.V_mono (Kd.V_far (p:=⟨gb275,5,none⟩) (Kd.V_far (p:=⟨gb275,4,none⟩) (Kd.V_far (p:=⟨gb275,3,none⟩) (Kd.V_far (p:=⟨gb275,2,none⟩) (Kd.V_far (p:=⟨gb275,1,none⟩) (Kd.V_far (p:=⟨gb275,0,none⟩) (Kd.V_mono HO291.out (fun k_ hk => (⟨hk,hk.2⟩ : _ ∧ k_ ≠ gb275))) (fun _ hk => hk.2) (.int .i64 t279)) (fun _ hk => hk.2) (.slice Ao24 t280.length co24)) (fun _ hk => hk.2) (.slice Ao25 t283.length co25)) (fun _ hk => hk.2) (.slice Ao26 t286.length co26)) (fun _ hk => hk.2) (.slice Ao27 t289.length co27)) (fun _ hk => hk.2) (.slice Ao28 t292.length co28)) (fun _ hk => hk.1.1),by (with_reducible repeat (first | apply Kd.V_alloc | apply Kd.V_drewN | apply Kd.V_drew));exact Kd.V_mono (Kd.V_far (p:=⟨gb275,5,none⟩) (Kd.V_far (p:=⟨gb275,4,none⟩) (Kd.V_far (p:=⟨gb275,3,none⟩) (Kd.V_far (p:=⟨gb275,2,none⟩) (Kd.V_far (p:=⟨gb275,1,none⟩) (Kd.V_far (p:=⟨gb275,0,none⟩) (Kd.V_mono HO294.out (fun k_ hk => (⟨hk,hk.2⟩ : _ ∧ k_ ≠ gb275))) (fun _ hk => hk.2) (.int .i64 t279)) (fun _ hk => hk.2) (.slice Ao24 t280.length co24)) (fun _ hk => hk.2) (.slice Ao25 t283.length co25)) (fun _ hk => hk.2) (.slice Ao26 t286.length co26)) (fun _ hk => hk.2) (.slice Ao27 t289.length co27)) (fun _ hk => hk.2) (.slice Ao28 t292.length co28)) (fun _ hk => hk.1.1),by repeat (first | (with_reducible first | exact HB.out | apply below_alloc | apply pw_below_drewN | apply below_drew1 | refine below_set ?_ GE275.out) | exact HB.out)⟩
        ·rw [if_neg c19] at H
         exact absurd H (by simp)
       ·rw [if_neg c18] at H
        exact absurd H (by simp)
     ·rw [if_neg c14] at H
      exact absurd H (by simp)
    ·rw [if_neg c13] at H
     exact absurd H (by simp)

/-! ### slices_Index_int_int: function 52 -/
def slices_Index_int_int.l0 : Nat → List Int → Int → Int → Int → Option (Int)
 | 0,_,_,_,_ => none
 | k + 1,x0,x1,x7,x8 => if x8 < x7 then (if 0 ≤ x8 then (if x8 < (x0.length : Int) then (if x1 = (rd x0 x8) then (some x8) else (slices_Index_int_int.l0 k x0 x1 x7 (wrap64 (x8 + 1)))) else (none)) else (none)) else (some (-1))
def slices_Index_int_int.f (k : Nat) (l0 : List Int) (a1 : Int) : Option (Int):=slices_Index_int_int.l0 k l0 a1 (l0.length : Int) 0
theorem slices_Index_int_int.mono_l : ∀ k,(∀ y0 y1 y2 y3,LeO (slices_Index_int_int.l0 k y0 y1 y2 y3) (slices_Index_int_int.l0 (k + 1) y0 y1 y2 y3))
 | 0 => fun _ _ _ _ r h => by simp [slices_Index_int_int.l0] at h
 | k + 1 => by
  have ih0:=slices_Index_int_int.mono_l k
  ·intro y0 y1 y2 y3
   unfold slices_Index_int_int.l0
   repeat' first
   | (with_reducible exact ih0 _ _ _ _)
   | (with_reducible exact LeO.refl _)
   | (with_reducible exact LeO.none _)
   | (with_reducible refine LeO.ite ?_ ?_)
   | (with_reducible refine LeO.bind ?_ (fun _ => ?_))
   | exact ih0 _ _ _ _
   | exact LeO.none _
   | refine LeO.ite ?_ ?_
   | refine LeO.bind ?_ (fun _ => ?_)
theorem slices_Index_int_int.mono : ∀ a0 a1 k,LeO (slices_Index_int_int.f k a0 a1) (slices_Index_int_int.f (k + 1) a0 a1):=by
 intro a0 a1 k
 have ih0:=slices_Index_int_int.mono_l k
 unfold slices_Index_int_int.f
 repeat' first
   | (with_reducible exact ih0 _ _ _ _)
   | (with_reducible exact LeO.refl _)
   | (with_reducible exact LeO.none _)
   | (with_reducible refine LeO.ite ?_ ?_)
   | (with_reducible refine LeO.bind ?_ (fun _ => ?_))
   | exact ih0 _ _ _ _
   | exact LeO.none _
   | refine LeO.ite ?_ ?_
   | refine LeO.bind ?_ (fun _ => ?_)
set_option maxHeartbeats 8000000 in
set_option maxRecDepth 100000 in
theorem slices_Index_int_int.calls (k : Nat) (A0 : Option Addr) (c0 : Nat) (l0 : List Int) (a1 : Int) (r : Int) (w : World) (hr0 : Kd.C (Kd.int .i64) w A0 l0.length l0) (hc0 : l0.length ≤ c0) (h : slices_Index_int_int.f k l0 a1 = some r) :
  Calls Try.prog 52 #[.slice A0 l0.length c0,.int .i64 a1] w fun e w' => e = .returned (.int .i64 r) ∧ Drawn0 w w':=by
 have HR0:=Aside0.mk hr0
 have HC0:=Aside0.mk hc0
 clear hr0 hc0
 have H : (slices_Index_int_int.l0 k l0 a1 (l0.length : Int) 0) = some r:=h
 clear h
 have H':=Aside0.mk H
 clear H
 go_enter Try.func52,Try.ntmps52
 go_wp2
 go_loopg [8] k (fun kq v8 w' => ∃ (x8_1 : Int),v8 = .int .i64 x8_1 ∧ Aside0 (slices_Index_int_int.l0 kq l0 a1 (l0.length : Int) x8_1 = some r) ∧ Aside0 (kq ≤ k) ∧ Drawn0 w w')
 case atStart => exact ⟨(0),(by first | rfl | (simp;done) | (simp [*];done)),H',⟨Nat.le_refl _⟩,by repeat (first | exact Drawn0.refl _ | apply Drawn0.step)⟩
 case round =>
  clear H'
  try clear p2
  obtain ⟨x8_1,rfl,HA,HK1,⟨m1,rfl⟩⟩:=hrel
  cases gk with
  | zero => exact absurd HA.out (by simp [slices_Index_int_int.l0])
  | succ k1 =>
   have H:=HA.out
   clear HA
   simp only [slices_Index_int_int.l0] at H
   by_cases c3 : x8_1 < (l0.length : Int)
   ·rw [if_pos c3] at H
    have c3b0 : decide (x8_1 < (l0.length : Int)) = true:=decide_eq_true c3
    clear c3
    by_cases c4 : 0 ≤ x8_1
    ·rw [if_pos c4] at H
     have c4b0 : decide (0 ≤ x8_1) = true:=decide_eq_true c4
     clear c4
     by_cases c5 : x8_1 < (l0.length : Int)
     ·rw [if_pos c5] at H
      have c5b0 : decide (x8_1 < (l0.length : Int)) = true:=decide_eq_true c5
      clear c5
      by_cases c6 : a1 = (rd l0 x8_1)
      ·rw [if_pos c6] at H
       have c6b0 : (a1 == (rd l0 x8_1)) = true:=beq_iff_eq.mpr c6
       have c6b1 : (a1 != (rd l0 x8_1)) = false:=bne_eq_false_iff_eq.mpr c6
       clear c6
       obtain rfl:=Option.some.inj H
       have p295 : 0 ≤ (x8_1 : Int):=of_decide_eq_true (by first | (with_reducible assumption) | assumption)
       have q295 : x8_1 < (l0.length : Int):=of_decide_eq_true (by first | (with_reducible assumption) | assumption)
       obtain ⟨ad295,e295,hx295_0⟩:=Kd.at_int HR0.out x8_1 p295 q295
       cases e295
       replace p295:=eq_true p295
       replace q295:=eq_true q295
       go_wp2
       go_ret
       exact ⟨by first | rfl | (simp;done) | (simp [*];done),by repeat (first | exact Drawn0.refl _ | apply Drawn0.step)⟩
      ·rw [if_neg c6] at H
       have c6b0 : (a1 == (rd l0 x8_1)) = false:=beq_eq_false_iff_ne.mpr c6
       have c6b1 : (a1 != (rd l0 x8_1)) = true:=bne_iff_ne.mpr c6
       have H':=Aside0.mk H
       clear H
       have p295 : 0 ≤ (x8_1 : Int):=of_decide_eq_true (by first | (with_reducible assumption) | assumption)
       have q295 : x8_1 < (l0.length : Int):=of_decide_eq_true (by first | (with_reducible assumption) | assumption)
       obtain ⟨ad295,e295,hx295_0⟩:=Kd.at_int HR0.out x8_1 p295 q295
       cases e295
       replace p295:=eq_true p295
       replace q295:=eq_true q295
       go_wp2
       go_roundg k1
       case measure => have:=HK1.out;omega
       case rel => exact ⟨(wrap64 (x8_1 + 1)),(by first | rfl | (simp;done) | (simp [*];done)),H',⟨by have:=HK1.out;omega⟩,by repeat (first | exact Drawn0.refl _ | apply Drawn0.step)⟩
     ·rw [if_neg c5] at H
      exact absurd H (by simp)
    ·rw [if_neg c4] at H
     exact absurd H (by simp)
   ·rw [if_neg c3] at H
    have c3b0 : decide (x8_1 < (l0.length : Int)) = false:=decide_eq_false c3
    clear c3
    obtain rfl:=Option.some.inj H
    go_wp2
    go_ret
    exact ⟨by first | rfl | (simp;done) | (simp [*];done),by repeat (first | exact Drawn0.refl _ | apply Drawn0.step)⟩

/-! ### slices_Contains_int_int: function 27 -/
def slices_Contains_int_int.f (k : Nat) (l0 : List Int) (a1 : Int) : Option (Bool):=(slices_Index_int_int.f k l0 a1).bind fun t296 => (some (decide (t296 ≥ 0)))
theorem slices_Contains_int_int.mono : ∀ a0 a1 k,LeO (slices_Contains_int_int.f k a0 a1) (slices_Contains_int_int.f (k + 1) a0 a1):=by
 intro a0 a1 k
 unfold slices_Contains_int_int.f
 repeat' first
   | (with_reducible exact slices_Index_int_int.mono _ _ _)
   | (with_reducible exact LeO.refl _)
   | (with_reducible exact LeO.none _)
   | (with_reducible refine LeO.ite ?_ ?_)
   | (with_reducible refine LeO.bind ?_ (fun _ => ?_))
   | exact slices_Index_int_int.mono _ _ _
   | exact LeO.none _
   | refine LeO.ite ?_ ?_
   | refine LeO.bind ?_ (fun _ => ?_)
set_option maxHeartbeats 8000000 in
set_option maxRecDepth 100000 in
theorem slices_Contains_int_int.calls (k : Nat) (A0 : Option Addr) (c0 : Nat) (l0 : List Int) (a1 : Int) (r : Bool) (w : World) (hr0 : Kd.C (Kd.int .i64) w A0 l0.length l0) (hc0 : l0.length ≤ c0) (h : slices_Contains_int_int.f k l0 a1 = some r) :
  Calls Try.prog 27 #[.slice A0 l0.length c0,.int .i64 a1] w fun e w' => e = .returned (.bool r) ∧ Drawn0 w w':=by
 have HR0:=Aside0.mk hr0
 have HC0:=Aside0.mk hc0
 clear hr0 hc0
 have H : ((slices_Index_int_int.f k l0 a1).bind fun t296 => (some (decide (t296 ≥ 0)))) = some r:=h
 clear h
 replace H:=Option.bind_eq_some_iff.mp H
 obtain ⟨t296,A30,H⟩:=H
 replace H : (some (decide (t296 ≥ 0))) = some r:=H
 have A3:=Aside0.mk A30
 clear A30
 obtain rfl:=Option.some.inj H
 go_enter Try.func27,Try.ntmps27
 go_wp2_with (first | ((with_reducible refine gate_callee (f:=52) rfl ?_);refine goesL_ (some 7) rfl rfl Try.func52 (by kernel_rfl) rfl #[.slice A0 l0.length c0,.int .i64 a1] rfl (by (try simp only [List.map_toArray,List.map_cons,List.map_nil]);first | done | rfl | (simp only [List.length_drop,List.length_take];rfl)) ?_;(with_reducible refine (slices_Index_int_int.calls k _ _ l0 a1 t296 _ ?side1 ?side2 A3.out).mono ?_);(case side1 => repeat (first | exact HR0.out | (with_reducible refine Kd.C_alloc ?_ _) | (with_reducible refine Kd.C_drewN ?_ _) | (with_reducible refine Kd.C_drew ?_)));(case side2 => exact HC0.out);rintro e w' ⟨rfl,⟨nd,rfl⟩⟩;refine ⟨_,rfl,?_⟩))
 go_ret
 exact ⟨by first | rfl | (simp;done) | (simp [*];done),by repeat (first | exact Drawn0.refl _ | apply Drawn0.step)⟩

/-! ### impl_FuncSeen: function 9 -/
def impl_FuncSeen.f (k : Nat) (l0 : List (S55)) (a1 : Int) (a2 : Int) (a3 : Int) : Option (Bool):=(impl_ShelfFunc.f l0 a2 a3).bind fun bt297 => (if bt297.2.2.2.2.2.2 = true then (if a1 < 0 then (some false) else (if a1 ≥ (l0.length : Int) then (some false) else (if a2 > a1 then (some false) else (if a2 = a1 then (some true) else (if bt297.1 = 2 then (some true) else (if bt297.1 = 1 then (if 0 ≤ a2 then (if a2 < (l0.length : Int) then ((slices_Contains_int_int.f k ((rd_T55 l0 a2).f2) a1).bind fun t316 => (some t316)) else (none)) else (none)) else (some false))))))) else (some false))
theorem impl_FuncSeen.mono : ∀ a0 a1 a2 a3 k,LeO (impl_FuncSeen.f k a0 a1 a2 a3) (impl_FuncSeen.f (k + 1) a0 a1 a2 a3):=by
 intro a0 a1 a2 a3 k
 unfold impl_FuncSeen.f
 repeat' first
   | (with_reducible exact slices_Contains_int_int.mono _ _ _)
   | (with_reducible exact LeO.refl _)
   | (with_reducible exact LeO.none _)
   | (with_reducible refine LeO.ite ?_ ?_)
   | (with_reducible refine LeO.bind ?_ (fun _ => ?_))
   | exact slices_Contains_int_int.mono _ _ _
   | exact LeO.none _
   | refine LeO.ite ?_ ?_
   | refine LeO.bind ?_ (fun _ => ?_)
set_option maxHeartbeats 8000000 in
set_option maxRecDepth 100000 in
theorem impl_FuncSeen.calls (k : Nat) (A0 : Option Addr) (c0 : Nat) (l0 : List (S55)) (a1 : Int) (a2 : Int) (a3 : Int) (r : Bool) (w : World) (hr0 : Kd.C k55 w A0 l0.length l0) (hc0 : l0.length ≤ c0) (h : impl_FuncSeen.f k l0 a1 a2 a3 = some r) :
  Calls Try.prog 9 #[.slice A0 l0.length c0,.int .i64 a1,.int .i64 a2,.int .i64 a3] w fun e w' => e = .returned (.bool r) ∧ Below w.heap.size w w':=by
 have hu39:=Try.underlying39
 have HR0:=Aside0.mk hr0
 have HC0:=Aside0.mk hc0
 clear hr0 hc0
 have HB:=Aside0.mk (Below.refl w.heap.size w)
 have H : ((impl_ShelfFunc.f l0 a2 a3).bind fun bt297 => (if bt297.2.2.2.2.2.2 = true then (if a1 < 0 then (some false) else (if a1 ≥ (l0.length : Int) then (some false) else (if a2 > a1 then (some false) else (if a2 = a1 then (some true) else (if bt297.1 = 2 then (some true) else (if bt297.1 = 1 then (if 0 ≤ a2 then (if a2 < (l0.length : Int) then ((slices_Contains_int_int.f k ((rd_T55 l0 a2).f2) a1).bind fun t316 => (some t316)) else (none)) else (none)) else (some false))))))) else (some false))) = some r:=h
 clear h
 replace H:=Option.bind_eq_some_iff.mp H
 obtain ⟨⟨t297,t298,t301,t304,t307,t310,t313⟩,A50,H⟩:=H
 replace H : (if t313 = true then (if a1 < 0 then (some false) else (if a1 ≥ (l0.length : Int) then (some false) else (if a2 > a1 then (some false) else (if a2 = a1 then (some true) else (if t297 = 2 then (some true) else (if t297 = 1 then (if 0 ≤ a2 then (if a2 < (l0.length : Int) then ((slices_Contains_int_int.f k ((rd_T55 l0 a2).f2) a1).bind fun t316 => (some t316)) else (none)) else (none)) else (some false))))))) else (some false)) = some r:=H
 have A5:=Aside0.mk A50
 clear A50
 by_cases c6 : t313 = true
 ·subst c6
  have H1 : (if a1 < 0 then (some false) else (if a1 ≥ (l0.length : Int) then (some false) else (if a2 > a1 then (some false) else (if a2 = a1 then (some true) else (if t297 = 2 then (some true) else (if t297 = 1 then (if 0 ≤ a2 then (if a2 < (l0.length : Int) then ((slices_Contains_int_int.f k ((rd_T55 l0 a2).f2) a1).bind fun t316 => (some t316)) else (none)) else (none)) else (some false))))))) = some r:=by rw [if_pos rfl] at H;exact H
  clear H
  have H:=H1
  clear H1
  by_cases c7 : a1 < 0
  ·rw [if_pos c7] at H
   have c7b0 : decide (a1 < 0) = true:=decide_eq_true c7
   clear c7
   obtain rfl:=Option.some.inj H
   go_enter Try.func9,Try.ntmps9
   go_wp2_with (first | ((with_reducible refine gate_callee (f:=18) rfl ?_);refine goesL_ (some 15) rfl rfl Try.func18 (by kernel_rfl) rfl #[.slice A0 l0.length c0,.int .i64 a2,.int .i64 a3] rfl (by (try simp only [List.map_toArray,List.map_cons,List.map_nil]);first | done | rfl | (simp only [List.length_drop,List.length_take];rfl)) ?_;(with_reducible refine (impl_ShelfFunc.calls _ _ l0 a2 a3 t297 t298 t301 t304 t307 t310 true _ ?side1 ?side2 A5.out).mono ?_);(case side1 => repeat (first | exact HR0.out | (with_reducible refine Kd.C_alloc ?_ _) | (with_reducible refine Kd.C_drewN ?_ _) | (with_reducible refine Kd.C_drew ?_)));(case side2 => exact HC0.out);rintro e w8 ⟨v299,v302,v305,v308,v311,rfl,ho0,ho1,ho2,ho3,ho4,hb⟩;refine ⟨_,rfl,?_⟩;have n0_:=Aside0.mk (Kd.V_lower (Kd.V_mono (ok':=fun k_ => True) ho0 (fun k_ hk_ => trivial)) (below_size (Up.Bup HB)));have n1_:=Aside0.mk (Kd.V_lower (Kd.V_mono (ok':=fun k_ => True) ho1 (fun k_ hk_ => trivial)) (below_size (Up.Bup HB)));have n2_:=Aside0.mk (Kd.V_lower (Kd.V_mono (ok':=fun k_ => True) ho2 (fun k_ hk_ => trivial)) (below_size (Up.Bup HB)));have n3_:=Aside0.mk (Kd.V_lower (Kd.V_mono (ok':=fun k_ => True) ho3 (fun k_ hk_ => trivial)) (below_size (Up.Bup HB)));have n4_:=Aside0.mk (Kd.V_lower (Kd.V_mono (ok':=fun k_ => True) ho4 (fun k_ hk_ => trivial)) (below_size (Up.Bup HB)));have n5_:=Up.BB HB hb;clear HB;have HO300:=n0_;have HO303:=n1_;have HO306:=n2_;have HO309:=n3_;have HO312:=n4_;have HB:=n5_;clear n0_ n1_ n2_ n3_ n4_ n5_;(try clear hb);(try clear hb2);(try clear hk);(try clear hi);(try clear ho0);(try clear ho1);(try clear ho2);(try clear ho3);(try clear ho4)) | ((with_reducible refine gate_dst (N:=9) rfl ?_);(try (refine gate_guard (by rfl) ?_;dsimp only));refine box_event ?hg (N:=9) ?hd (cs:=#[.int .i64 0,.slice none 0 0,.slice none 0 0,.slice none 0 0,.slice none 0 0,.slice none 0 0]) (t:=39) ?hr ?_;(case hd => rfl);(case hg => rfl);(case hr => first | (go_simp;done) | (go_simp;rfl));intro gb314 hg w9 hbox hb;have n0_:=Aside0.mk (Kd.V_below (Kd.V_elderB (Up.Vup HO300) gb314 (Nat.le_of_eq hg.symm)) hb);have n1_:=Aside0.mk (Kd.V_below (Kd.V_elderB (Up.Vup HO303) gb314 (Nat.le_of_eq hg.symm)) hb);have n2_:=Aside0.mk (Kd.V_below (Kd.V_elderB (Up.Vup HO306) gb314 (Nat.le_of_eq hg.symm)) hb);have n3_:=Aside0.mk (Kd.V_below (Kd.V_elderB (Up.Vup HO309) gb314 (Nat.le_of_eq hg.symm)) hb);have n4_:=Aside0.mk (Kd.V_below (Kd.V_elderB (Up.Vup HO312) gb314 (Nat.le_of_eq hg.symm)) hb);have n5_:=Up.BB HB hb;have n6_:=Aside0.mk (hbox);have n7_:=Aside0.mk ((by rw [hg];exact (below_size (Up.Bup HB)) : w.heap.size ≤ gb314));have n8_:=Aside0.mk ((by rw [hg];exact (below_size (Up.Bup HB)) : w.heap.size ≤ gb314));clear HO300;clear HO303;clear HO306;clear HO309;clear HO312;clear HB;have HO300:=n0_;have HO303:=n1_;have HO306:=n2_;have HO309:=n3_;have HO312:=n4_;have HB:=n5_;have BK314:=n6_;have GW314:=n7_;have GE314:=n8_;clear n0_ n1_ n2_ n3_ n4_ n5_ n6_ n7_ n8_;clear hb hbox hg;have hcz10_0 : w9.cell? ⟨gb314,0,none⟩ = some (.int .i64 0):=(blk_cell BK314.out 0).trans rfl;have hcz10_1 : w9.cell? ⟨gb314,1,none⟩ = some (.slice none 0 0):=(blk_cell BK314.out 1).trans rfl;have hcz10_2 : w9.cell? ⟨gb314,2,none⟩ = some (.slice none 0 0):=(blk_cell BK314.out 2).trans rfl;have hcz10_3 : w9.cell? ⟨gb314,3,none⟩ = some (.slice none 0 0):=(blk_cell BK314.out 3).trans rfl;have hcz10_4 : w9.cell? ⟨gb314,4,none⟩ = some (.slice none 0 0):=(blk_cell BK314.out 4).trans rfl;have hcz10_5 : w9.cell? ⟨gb314,5,none⟩ = some (.slice none 0 0):=(blk_cell BK314.out 5).trans rfl;have hfz10_0:=blk_frozen BK314.out 0;have hfz10_1:=blk_frozen BK314.out 1;have hfz10_2:=blk_frozen BK314.out 2;have hfz10_3:=blk_frozen BK314.out 3;have hfz10_4:=blk_frozen BK314.out 4;have hfz10_5:=blk_frozen BK314.out 5;obtain ⟨Ao11,co11,eo11⟩:=Kd.V_slice HO300.out;subst eo11;obtain ⟨Ao12,co12,eo12⟩:=Kd.V_slice HO303.out;subst eo12;obtain ⟨Ao13,co13,eo13⟩:=Kd.V_slice HO306.out;subst eo13;obtain ⟨Ao14,co14,eo14⟩:=Kd.V_slice HO309.out;subst eo14;obtain ⟨Ao15,co15,eo15⟩:=Kd.V_slice HO312.out;subst eo15))
   go_ret
   exact ⟨by first | rfl | (simp [errW_none,errW_some] <;> rfl) | (simp [*,errW_none,errW_some] <;> rfl),by repeat (first | (with_reducible first | exact HB.out | apply below_alloc | apply pw_below_drewN | apply below_drew1 | refine below_set ?_ GE314.out) | exact HB.out)⟩
  ·rw [if_neg c7] at H
   have c7b0 : decide (a1 < 0) = false:=decide_eq_false c7
   clear c7
   by_cases c16 : a1 ≥ (l0.length : Int)
   ·rw [if_pos c16] at H
    have c16b0 : decide ((l0.length : Int) ≤ a1) = true:=decide_eq_true c16
    clear c16
    obtain rfl:=Option.some.inj H
    go_enter Try.func9,Try.ntmps9
    go_wp2_with (first | ((with_reducible refine gate_callee (f:=18) rfl ?_);refine goesL_ (some 15) rfl rfl Try.func18 (by kernel_rfl) rfl #[.slice A0 l0.length c0,.int .i64 a2,.int .i64 a3] rfl (by (try simp only [List.map_toArray,List.map_cons,List.map_nil]);first | done | rfl | (simp only [List.length_drop,List.length_take];rfl)) ?_;(with_reducible refine (impl_ShelfFunc.calls _ _ l0 a2 a3 t297 t298 t301 t304 t307 t310 true _ ?side1 ?side2 A5.out).mono ?_);(case side1 => repeat (first | exact HR0.out | (with_reducible refine Kd.C_alloc ?_ _) | (with_reducible refine Kd.C_drewN ?_ _) | (with_reducible refine Kd.C_drew ?_)));(case side2 => exact HC0.out);rintro e w17 ⟨v299,v302,v305,v308,v311,rfl,ho0,ho1,ho2,ho3,ho4,hb⟩;refine ⟨_,rfl,?_⟩;have n0_:=Aside0.mk (Kd.V_lower (Kd.V_mono (ok':=fun k_ => True) ho0 (fun k_ hk_ => trivial)) (below_size (Up.Bup HB)));have n1_:=Aside0.mk (Kd.V_lower (Kd.V_mono (ok':=fun k_ => True) ho1 (fun k_ hk_ => trivial)) (below_size (Up.Bup HB)));have n2_:=Aside0.mk (Kd.V_lower (Kd.V_mono (ok':=fun k_ => True) ho2 (fun k_ hk_ => trivial)) (below_size (Up.Bup HB)));have n3_:=Aside0.mk (Kd.V_lower (Kd.V_mono (ok':=fun k_ => True) ho3 (fun k_ hk_ => trivial)) (below_size (Up.Bup HB)));have n4_:=Aside0.mk (Kd.V_lower (Kd.V_mono (ok':=fun k_ => True) ho4 (fun k_ hk_ => trivial)) (below_size (Up.Bup HB)));have n5_:=Up.BB HB hb;clear HB;have HO300:=n0_;have HO303:=n1_;have HO306:=n2_;have HO309:=n3_;have HO312:=n4_;have HB:=n5_;clear n0_ n1_ n2_ n3_ n4_ n5_;(try clear hb);(try clear hb2);(try clear hk);(try clear hi);(try clear ho0);(try clear ho1);(try clear ho2);(try clear ho3);(try clear ho4)) | ((with_reducible refine gate_dst (N:=9) rfl ?_);(try (refine gate_guard (by rfl) ?_;dsimp only));refine box_event ?hg (N:=9) ?hd (cs:=#[.int .i64 0,.slice none 0 0,.slice none 0 0,.slice none 0 0,.slice none 0 0,.slice none 0 0]) (t:=39) ?hr ?_;(case hd => rfl);(case hg => rfl);(case hr => first | (go_simp;done) | (go_simp;rfl));intro gb314 hg w18 hbox hb;have n0_:=Aside0.mk (Kd.V_below (Kd.V_elderB (Up.Vup HO300) gb314 (Nat.le_of_eq hg.symm)) hb);have n1_:=Aside0.mk (Kd.V_below (Kd.V_elderB (Up.Vup HO303) gb314 (Nat.le_of_eq hg.symm)) hb);have n2_:=Aside0.mk (Kd.V_below (Kd.V_elderB (Up.Vup HO306) gb314 (Nat.le_of_eq hg.symm)) hb);have n3_:=Aside0.mk (Kd.V_below (Kd.V_elderB (Up.Vup HO309) gb314 (Nat.le_of_eq hg.symm)) hb);have n4_:=Aside0.mk (Kd.V_below (Kd.V_elderB (Up.Vup HO312) gb314 (Nat.le_of_eq hg.symm)) hb);have n5_:=Up.BB HB hb;have n6_:=Aside0.mk (hbox);have n7_:=Aside0.mk ((by rw [hg];exact (below_size (Up.Bup HB)) : w.heap.size ≤ gb314));have n8_:=Aside0.mk ((by rw [hg];exact (below_size (Up.Bup HB)) : w.heap.size ≤ gb314));clear HO300;clear HO303;clear HO306;clear HO309;clear HO312;clear HB;have HO300:=n0_;have HO303:=n1_;have HO306:=n2_;have HO309:=n3_;have HO312:=n4_;have HB:=n5_;have BK314:=n6_;have GW314:=n7_;have GE314:=n8_;clear n0_ n1_ n2_ n3_ n4_ n5_ n6_ n7_ n8_;clear hb hbox hg;have hcz19_0 : w18.cell? ⟨gb314,0,none⟩ = some (.int .i64 0):=(blk_cell BK314.out 0).trans rfl;have hcz19_1 : w18.cell? ⟨gb314,1,none⟩ = some (.slice none 0 0):=(blk_cell BK314.out 1).trans rfl;have hcz19_2 : w18.cell? ⟨gb314,2,none⟩ = some (.slice none 0 0):=(blk_cell BK314.out 2).trans rfl;have hcz19_3 : w18.cell? ⟨gb314,3,none⟩ = some (.slice none 0 0):=(blk_cell BK314.out 3).trans rfl;have hcz19_4 : w18.cell? ⟨gb314,4,none⟩ = some (.slice none 0 0):=(blk_cell BK314.out 4).trans rfl;have hcz19_5 : w18.cell? ⟨gb314,5,none⟩ = some (.slice none 0 0):=(blk_cell BK314.out 5).trans rfl;have hfz19_0:=blk_frozen BK314.out 0;have hfz19_1:=blk_frozen BK314.out 1;have hfz19_2:=blk_frozen BK314.out 2;have hfz19_3:=blk_frozen BK314.out 3;have hfz19_4:=blk_frozen BK314.out 4;have hfz19_5:=blk_frozen BK314.out 5;obtain ⟨Ao20,co20,eo20⟩:=Kd.V_slice HO300.out;subst eo20;obtain ⟨Ao21,co21,eo21⟩:=Kd.V_slice HO303.out;subst eo21;obtain ⟨Ao22,co22,eo22⟩:=Kd.V_slice HO306.out;subst eo22;obtain ⟨Ao23,co23,eo23⟩:=Kd.V_slice HO309.out;subst eo23;obtain ⟨Ao24,co24,eo24⟩:=Kd.V_slice HO312.out;subst eo24))
    go_ret
    exact ⟨by first | rfl | (simp [errW_none,errW_some] <;> rfl) | (simp [*,errW_none,errW_some] <;> rfl),by repeat (first | (with_reducible first | exact HB.out | apply below_alloc | apply pw_below_drewN | apply below_drew1 | refine below_set ?_ GE314.out) | exact HB.out)⟩
   ·rw [if_neg c16] at H
    have c16b0 : decide ((l0.length : Int) ≤ a1) = false:=decide_eq_false c16
    clear c16
    by_cases c25 : a2 > a1
    ·rw [if_pos c25] at H
     have c25b0 : decide (a1 < a2) = true:=decide_eq_true c25
     clear c25
     obtain rfl:=Option.some.inj H
     go_enter Try.func9,Try.ntmps9
     go_wp2_with (first | ((with_reducible refine gate_callee (f:=18) rfl ?_);refine goesL_ (some 15) rfl rfl Try.func18 (by kernel_rfl) rfl #[.slice A0 l0.length c0,.int .i64 a2,.int .i64 a3] rfl (by (try simp only [List.map_toArray,List.map_cons,List.map_nil]);first | done | rfl | (simp only [List.length_drop,List.length_take];rfl)) ?_;(with_reducible refine (impl_ShelfFunc.calls _ _ l0 a2 a3 t297 t298 t301 t304 t307 t310 true _ ?side1 ?side2 A5.out).mono ?_);(case side1 => repeat (first | exact HR0.out | (with_reducible refine Kd.C_alloc ?_ _) | (with_reducible refine Kd.C_drewN ?_ _) | (with_reducible refine Kd.C_drew ?_)));(case side2 => exact HC0.out);rintro e w26 ⟨v299,v302,v305,v308,v311,rfl,ho0,ho1,ho2,ho3,ho4,hb⟩;refine ⟨_,rfl,?_⟩;have n0_:=Aside0.mk (Kd.V_lower (Kd.V_mono (ok':=fun k_ => True) ho0 (fun k_ hk_ => trivial)) (below_size (Up.Bup HB)));have n1_:=Aside0.mk (Kd.V_lower (Kd.V_mono (ok':=fun k_ => True) ho1 (fun k_ hk_ => trivial)) (below_size (Up.Bup HB)));have n2_:=Aside0.mk (Kd.V_lower (Kd.V_mono (ok':=fun k_ => True) ho2 (fun k_ hk_ => trivial)) (below_size (Up.Bup HB)));have n3_:=Aside0.mk (Kd.V_lower (Kd.V_mono (ok':=fun k_ => True) ho3 (fun k_ hk_ => trivial)) (below_size (Up.Bup HB)));have n4_:=Aside0.mk (Kd.V_lower (Kd.V_mono (ok':=fun k_ => True) ho4 (fun k_ hk_ => trivial)) (below_size (Up.Bup HB)));have n5_:=Up.BB HB hb;clear HB;have HO300:=n0_;have HO303:=n1_;have HO306:=n2_;have HO309:=n3_;have HO312:=n4_;have HB:=n5_;clear n0_ n1_ n2_ n3_ n4_ n5_;(try clear hb);(try clear hb2);(try clear hk);(try clear hi);(try clear ho0);(try clear ho1);(try clear ho2);(try clear ho3);(try clear ho4)) | ((with_reducible refine gate_dst (N:=9) rfl ?_);(try (refine gate_guard (by rfl) ?_;dsimp only));refine box_event ?hg (N:=9) ?hd (cs:=#[.int .i64 0,.slice none 0 0,.slice none 0 0,.slice none 0 0,.slice none 0 0,.slice none 0 0]) (t:=39) ?hr ?_;(case hd => rfl);(case hg => rfl);(case hr => first | (go_simp;done) | (go_simp;rfl));intro gb314 hg w27 hbox hb;have n0_:=Aside0.mk (Kd.V_below (Kd.V_elderB (Up.Vup HO300) gb314 (Nat.le_of_eq hg.symm)) hb);have n1_:=Aside0.mk (Kd.V_below (Kd.V_elderB (Up.Vup HO303) gb314 (Nat.le_of_eq hg.symm)) hb);have n2_:=Aside0.mk (Kd.V_below (Kd.V_elderB (Up.Vup HO306) gb314 (Nat.le_of_eq hg.symm)) hb);have n3_:=Aside0.mk (Kd.V_below (Kd.V_elderB (Up.Vup HO309) gb314 (Nat.le_of_eq hg.symm)) hb);have n4_:=Aside0.mk (Kd.V_below (Kd.V_elderB (Up.Vup HO312) gb314 (Nat.le_of_eq hg.symm)) hb);have n5_:=Up.BB HB hb;have n6_:=Aside0.mk (hbox);have n7_:=Aside0.mk ((by rw [hg];exact (below_size (Up.Bup HB)) : w.heap.size ≤ gb314));have n8_:=Aside0.mk ((by rw [hg];exact (below_size (Up.Bup HB)) : w.heap.size ≤ gb314));clear HO300;clear HO303;clear HO306;clear HO309;clear HO312;clear HB;have HO300:=n0_;have HO303:=n1_;have HO306:=n2_;have HO309:=n3_;have HO312:=n4_;have HB:=n5_;have BK314:=n6_;have GW314:=n7_;have GE314:=n8_;clear n0_ n1_ n2_ n3_ n4_ n5_ n6_ n7_ n8_;clear hb hbox hg;have hcz28_0 : w27.cell? ⟨gb314,0,none⟩ = some (.int .i64 0):=(blk_cell BK314.out 0).trans rfl;have hcz28_1 : w27.cell? ⟨gb314,1,none⟩ = some (.slice none 0 0):=(blk_cell BK314.out 1).trans rfl;have hcz28_2 : w27.cell? ⟨gb314,2,none⟩ = some (.slice none 0 0):=(blk_cell BK314.out 2).trans rfl;have hcz28_3 : w27.cell? ⟨gb314,3,none⟩ = some (.slice none 0 0):=(blk_cell BK314.out 3).trans rfl;have hcz28_4 : w27.cell? ⟨gb314,4,none⟩ = some (.slice none 0 0):=(blk_cell BK314.out 4).trans rfl;have hcz28_5 : w27.cell? ⟨gb314,5,none⟩ = some (.slice none 0 0):=(blk_cell BK314.out 5).trans rfl;have hfz28_0:=blk_frozen BK314.out 0;have hfz28_1:=blk_frozen BK314.out 1;have hfz28_2:=blk_frozen BK314.out 2;have hfz28_3:=blk_frozen BK314.out 3;have hfz28_4:=blk_frozen BK314.out 4;have hfz28_5:=blk_frozen BK314.out 5;obtain ⟨Ao29,co29,eo29⟩:=Kd.V_slice HO300.out;subst eo29;obtain ⟨Ao30,co30,eo30⟩:=Kd.V_slice HO303.out;subst eo30;obtain ⟨Ao31,co31,eo31⟩:=Kd.V_slice HO306.out;subst eo31;obtain ⟨Ao32,co32,eo32⟩:=Kd.V_slice HO309.out;subst eo32;obtain ⟨Ao33,co33,eo33⟩:=Kd.V_slice HO312.out;subst eo33))
     go_ret
     exact ⟨by first | rfl | (simp [errW_none,errW_some] <;> rfl) | (simp [*,errW_none,errW_some] <;> rfl),by repeat (first | (with_reducible first | exact HB.out | apply below_alloc | apply pw_below_drewN | apply below_drew1 | refine below_set ?_ GE314.out) | exact HB.out)⟩
    ·rw [if_neg c25] at H
     have c25b0 : decide (a1 < a2) = false:=decide_eq_false c25
     clear c25
     by_cases c34 : a2 = a1
     ·rw [if_pos c34] at H
      have c34b0 : (a2 == a1) = true:=beq_iff_eq.mpr c34
      have c34b1 : (a2 != a1) = false:=bne_eq_false_iff_eq.mpr c34
      clear c34
      obtain rfl:=Option.some.inj H
      go_enter Try.func9,Try.ntmps9
      go_wp2_with (first | ((with_reducible refine gate_callee (f:=18) rfl ?_);refine goesL_ (some 15) rfl rfl Try.func18 (by kernel_rfl) rfl #[.slice A0 l0.length c0,.int .i64 a2,.int .i64 a3] rfl (by (try simp only [List.map_toArray,List.map_cons,List.map_nil]);first | done | rfl | (simp only [List.length_drop,List.length_take];rfl)) ?_;(with_reducible refine (impl_ShelfFunc.calls _ _ l0 a2 a3 t297 t298 t301 t304 t307 t310 true _ ?side1 ?side2 A5.out).mono ?_);(case side1 => repeat (first | exact HR0.out | (with_reducible refine Kd.C_alloc ?_ _) | (with_reducible refine Kd.C_drewN ?_ _) | (with_reducible refine Kd.C_drew ?_)));(case side2 => exact HC0.out);rintro e w35 ⟨v299,v302,v305,v308,v311,rfl,ho0,ho1,ho2,ho3,ho4,hb⟩;refine ⟨_,rfl,?_⟩;have n0_:=Aside0.mk (Kd.V_lower (Kd.V_mono (ok':=fun k_ => True) ho0 (fun k_ hk_ => trivial)) (below_size (Up.Bup HB)));have n1_:=Aside0.mk (Kd.V_lower (Kd.V_mono (ok':=fun k_ => True) ho1 (fun k_ hk_ => trivial)) (below_size (Up.Bup HB)));have n2_:=Aside0.mk (Kd.V_lower (Kd.V_mono (ok':=fun k_ => True) ho2 (fun k_ hk_ => trivial)) (below_size (Up.Bup HB)));have n3_:=Aside0.mk (Kd.V_lower (Kd.V_mono (ok':=fun k_ => True) ho3 (fun k_ hk_ => trivial)) (below_size (Up.Bup HB)));have n4_:=Aside0.mk (Kd.V_lower (Kd.V_mono (ok':=fun k_ => True) ho4 (fun k_ hk_ => trivial)) (below_size (Up.Bup HB)));have n5_:=Up.BB HB hb;clear HB;have HO300:=n0_;have HO303:=n1_;have HO306:=n2_;have HO309:=n3_;have HO312:=n4_;have HB:=n5_;clear n0_ n1_ n2_ n3_ n4_ n5_;(try clear hb);(try clear hb2);(try clear hk);(try clear hi);(try clear ho0);(try clear ho1);(try clear ho2);(try clear ho3);(try clear ho4)) | ((with_reducible refine gate_dst (N:=9) rfl ?_);(try (refine gate_guard (by rfl) ?_;dsimp only));refine box_event ?hg (N:=9) ?hd (cs:=#[.int .i64 0,.slice none 0 0,.slice none 0 0,.slice none 0 0,.slice none 0 0,.slice none 0 0]) (t:=39) ?hr ?_;(case hd => rfl);(case hg => rfl);(case hr => first | (go_simp;done) | (go_simp;rfl));intro gb314 hg w36 hbox hb;have n0_:=Aside0.mk (Kd.V_below (Kd.V_elderB (Up.Vup HO300) gb314 (Nat.le_of_eq hg.symm)) hb);have n1_:=Aside0.mk (Kd.V_below (Kd.V_elderB (Up.Vup HO303) gb314 (Nat.le_of_eq hg.symm)) hb);have n2_:=Aside0.mk (Kd.V_below (Kd.V_elderB (Up.Vup HO306) gb314 (Nat.le_of_eq hg.symm)) hb);have n3_:=Aside0.mk (Kd.V_below (Kd.V_elderB (Up.Vup HO309) gb314 (Nat.le_of_eq hg.symm)) hb);have n4_:=Aside0.mk (Kd.V_below (Kd.V_elderB (Up.Vup HO312) gb314 (Nat.le_of_eq hg.symm)) hb);have n5_:=Up.BB HB hb;have n6_:=Aside0.mk (hbox);have n7_:=Aside0.mk ((by rw [hg];exact (below_size (Up.Bup HB)) : w.heap.size ≤ gb314));have n8_:=Aside0.mk ((by rw [hg];exact (below_size (Up.Bup HB)) : w.heap.size ≤ gb314));clear HO300;clear HO303;clear HO306;clear HO309;clear HO312;clear HB;have HO300:=n0_;have HO303:=n1_;have HO306:=n2_;have HO309:=n3_;have HO312:=n4_;have HB:=n5_;have BK314:=n6_;have GW314:=n7_;have GE314:=n8_;clear n0_ n1_ n2_ n3_ n4_ n5_ n6_ n7_ n8_;clear hb hbox hg;have hcz37_0 : w36.cell? ⟨gb314,0,none⟩ = some (.int .i64 0):=(blk_cell BK314.out 0).trans rfl;have hcz37_1 : w36.cell? ⟨gb314,1,none⟩ = some (.slice none 0 0):=(blk_cell BK314.out 1).trans rfl;have hcz37_2 : w36.cell? ⟨gb314,2,none⟩ = some (.slice none 0 0):=(blk_cell BK314.out 2).trans rfl;have hcz37_3 : w36.cell? ⟨gb314,3,none⟩ = some (.slice none 0 0):=(blk_cell BK314.out 3).trans rfl;have hcz37_4 : w36.cell? ⟨gb314,4,none⟩ = some (.slice none 0 0):=(blk_cell BK314.out 4).trans rfl;have hcz37_5 : w36.cell? ⟨gb314,5,none⟩ = some (.slice none 0 0):=(blk_cell BK314.out 5).trans rfl;have hfz37_0:=blk_frozen BK314.out 0;have hfz37_1:=blk_frozen BK314.out 1;have hfz37_2:=blk_frozen BK314.out 2;have hfz37_3:=blk_frozen BK314.out 3;have hfz37_4:=blk_frozen BK314.out 4;have hfz37_5:=blk_frozen BK314.out 5;obtain ⟨Ao38,co38,eo38⟩:=Kd.V_slice HO300.out;subst eo38;obtain ⟨Ao39,co39,eo39⟩:=Kd.V_slice HO303.out;subst eo39;obtain ⟨Ao40,co40,eo40⟩:=Kd.V_slice HO306.out;subst eo40;obtain ⟨Ao41,co41,eo41⟩:=Kd.V_slice HO309.out;subst eo41;obtain ⟨Ao42,co42,eo42⟩:=Kd.V_slice HO312.out;subst eo42))
      go_ret
      exact ⟨by first | rfl | (simp [errW_none,errW_some] <;> rfl) | (simp [*,errW_none,errW_some] <;> rfl),by repeat (first | (with_reducible first | exact HB.out | apply below_alloc | apply pw_below_drewN | apply below_drew1 | refine below_set ?_ GE314.out) | exact HB.out)⟩
     ·rw [if_neg c34] at H
      have c34b0 : (a2 == a1) = false:=beq_eq_false_iff_ne.mpr c34
      have c34b1 : (a2 != a1) = true:=bne_iff_ne.mpr c34
      by_cases c43 : t297 = 2
      ·rw [if_pos c43] at H
       have c43b0 : (t297 == 2) = true:=beq_iff_eq.mpr c43
       have c43b1 : (t297 != 2) = false:=bne_eq_false_iff_eq.mpr c43
       clear c43
       obtain rfl:=Option.some.inj H
       go_enter Try.func9,Try.ntmps9
       go_wp2_with (first | ((with_reducible refine gate_callee (f:=18) rfl ?_);refine goesL_ (some 15) rfl rfl Try.func18 (by kernel_rfl) rfl #[.slice A0 l0.length c0,.int .i64 a2,.int .i64 a3] rfl (by (try simp only [List.map_toArray,List.map_cons,List.map_nil]);first | done | rfl | (simp only [List.length_drop,List.length_take];rfl)) ?_;(with_reducible refine (impl_ShelfFunc.calls _ _ l0 a2 a3 t297 t298 t301 t304 t307 t310 true _ ?side1 ?side2 A5.out).mono ?_);(case side1 => repeat (first | exact HR0.out | (with_reducible refine Kd.C_alloc ?_ _) | (with_reducible refine Kd.C_drewN ?_ _) | (with_reducible refine Kd.C_drew ?_)));(case side2 => exact HC0.out);rintro e w44 ⟨v299,v302,v305,v308,v311,rfl,ho0,ho1,ho2,ho3,ho4,hb⟩;refine ⟨_,rfl,?_⟩;have n0_:=Aside0.mk (Kd.V_lower (Kd.V_mono (ok':=fun k_ => True) ho0 (fun k_ hk_ => trivial)) (below_size (Up.Bup HB)));have n1_:=Aside0.mk (Kd.V_lower (Kd.V_mono (ok':=fun k_ => True) ho1 (fun k_ hk_ => trivial)) (below_size (Up.Bup HB)));have n2_:=Aside0.mk (Kd.V_lower (Kd.V_mono (ok':=fun k_ => True) ho2 (fun k_ hk_ => trivial)) (below_size (Up.Bup HB)));have n3_:=Aside0.mk (Kd.V_lower (Kd.V_mono (ok':=fun k_ => True) ho3 (fun k_ hk_ => trivial)) (below_size (Up.Bup HB)));have n4_:=Aside0.mk (Kd.V_lower (Kd.V_mono (ok':=fun k_ => True) ho4 (fun k_ hk_ => trivial)) (below_size (Up.Bup HB)));have n5_:=Up.BB HB hb;clear HB;have HO300:=n0_;have HO303:=n1_;have HO306:=n2_;have HO309:=n3_;have HO312:=n4_;have HB:=n5_;clear n0_ n1_ n2_ n3_ n4_ n5_;(try clear hb);(try clear hb2);(try clear hk);(try clear hi);(try clear ho0);(try clear ho1);(try clear ho2);(try clear ho3);(try clear ho4)) | ((with_reducible refine gate_dst (N:=9) rfl ?_);(try (refine gate_guard (by rfl) ?_;dsimp only));refine box_event ?hg (N:=9) ?hd (cs:=#[.int .i64 0,.slice none 0 0,.slice none 0 0,.slice none 0 0,.slice none 0 0,.slice none 0 0]) (t:=39) ?hr ?_;(case hd => rfl);(case hg => rfl);(case hr => first | (go_simp;done) | (go_simp;rfl));intro gb314 hg w45 hbox hb;have n0_:=Aside0.mk (Kd.V_below (Kd.V_elderB (Up.Vup HO300) gb314 (Nat.le_of_eq hg.symm)) hb);have n1_:=Aside0.mk (Kd.V_below (Kd.V_elderB (Up.Vup HO303) gb314 (Nat.le_of_eq hg.symm)) hb);have n2_:=Aside0.mk (Kd.V_below (Kd.V_elderB (Up.Vup HO306) gb314 (Nat.le_of_eq hg.symm)) hb);have n3_:=Aside0.mk (Kd.V_below (Kd.V_elderB (Up.Vup HO309) gb314 (Nat.le_of_eq hg.symm)) hb);have n4_:=Aside0.mk (Kd.V_below (Kd.V_elderB (Up.Vup HO312) gb314 (Nat.le_of_eq hg.symm)) hb);have n5_:=Up.BB HB hb;have n6_:=Aside0.mk (hbox);have n7_:=Aside0.mk ((by rw [hg];exact (below_size (Up.Bup HB)) : w.heap.size ≤ gb314));have n8_:=Aside0.mk ((by rw [hg];exact (below_size (Up.Bup HB)) : w.heap.size ≤ gb314));clear HO300;clear HO303;clear HO306;clear HO309;clear HO312;clear HB;have HO300:=n0_;have HO303:=n1_;have HO306:=n2_;have HO309:=n3_;have HO312:=n4_;have HB:=n5_;have BK314:=n6_;have GW314:=n7_;have GE314:=n8_;clear n0_ n1_ n2_ n3_ n4_ n5_ n6_ n7_ n8_;clear hb hbox hg;have hcz46_0 : w45.cell? ⟨gb314,0,none⟩ = some (.int .i64 0):=(blk_cell BK314.out 0).trans rfl;have hcz46_1 : w45.cell? ⟨gb314,1,none⟩ = some (.slice none 0 0):=(blk_cell BK314.out 1).trans rfl;have hcz46_2 : w45.cell? ⟨gb314,2,none⟩ = some (.slice none 0 0):=(blk_cell BK314.out 2).trans rfl;have hcz46_3 : w45.cell? ⟨gb314,3,none⟩ = some (.slice none 0 0):=(blk_cell BK314.out 3).trans rfl;have hcz46_4 : w45.cell? ⟨gb314,4,none⟩ = some (.slice none 0 0):=(blk_cell BK314.out 4).trans rfl;have hcz46_5 : w45.cell? ⟨gb314,5,none⟩ = some (.slice none 0 0):=(blk_cell BK314.out 5).trans rfl;have hfz46_0:=blk_frozen BK314.out 0;have hfz46_1:=blk_frozen BK314.out 1;have hfz46_2:=blk_frozen BK314.out 2;have hfz46_3:=blk_frozen BK314.out 3;have hfz46_4:=blk_frozen BK314.out 4;have hfz46_5:=blk_frozen BK314.out 5;obtain ⟨Ao47,co47,eo47⟩:=Kd.V_slice HO300.out;subst eo47;obtain ⟨Ao48,co48,eo48⟩:=Kd.V_slice HO303.out;subst eo48;obtain ⟨Ao49,co49,eo49⟩:=Kd.V_slice HO306.out;subst eo49;obtain ⟨Ao50,co50,eo50⟩:=Kd.V_slice HO309.out;subst eo50;obtain ⟨Ao51,co51,eo51⟩:=Kd.V_slice HO312.out;subst eo51))
       go_ret
       exact ⟨by first | rfl | (simp [errW_none,errW_some] <;> rfl) | (simp [*,errW_none,errW_some] <;> rfl),by repeat (first | (with_reducible first | exact HB.out | apply below_alloc | apply pw_below_drewN | apply below_drew1 | refine below_set ?_ GE314.out) | exact HB.out)⟩
      ·rw [if_neg c43] at H
       have c43b0 : (t297 == 2) = false:=beq_eq_false_iff_ne.mpr c43
       have c43b1 : (t297 != 2) = true:=bne_iff_ne.mpr c43
       by_cases c52 : t297 = 1
       ·rw [if_pos c52] at H
        have c52b0 : (t297 == 1) = true:=beq_iff_eq.mpr c52
        have c52b1 : (t297 != 1) = false:=bne_eq_false_iff_eq.mpr c52
        clear c52
        by_cases c53 : 0 ≤ a2
        ·rw [if_pos c53] at H
         have c53b0 : decide (0 ≤ a2) = true:=decide_eq_true c53
         clear c53
         by_cases c54 : a2 < (l0.length : Int)
         ·rw [if_pos c54] at H
          have c54b0 : decide (a2 < (l0.length : Int)) = true:=decide_eq_true c54
          clear c54
          replace H:=Option.bind_eq_some_iff.mp H
          obtain ⟨t316,A550,H⟩:=H
          replace H : (some t316) = some r:=H
          have A55:=Aside0.mk A550
          clear A550
          obtain rfl:=Option.some.inj H
          go_enter Try.func9,Try.ntmps9
          go_wp2_with (first | ((with_reducible refine gate_callee (f:=18) rfl ?_);refine goesL_ (some 15) rfl rfl Try.func18 (by kernel_rfl) rfl #[.slice A0 l0.length c0,.int .i64 a2,.int .i64 a3] rfl (by (try simp only [List.map_toArray,List.map_cons,List.map_nil]);first | done | rfl | (simp only [List.length_drop,List.length_take];rfl)) ?_;(with_reducible refine (impl_ShelfFunc.calls _ _ l0 a2 a3 t297 t298 t301 t304 t307 t310 true _ ?side1 ?side2 A5.out).mono ?_);(case side1 => repeat (first | exact HR0.out | (with_reducible refine Kd.C_alloc ?_ _) | (with_reducible refine Kd.C_drewN ?_ _) | (with_reducible refine Kd.C_drew ?_)));(case side2 => exact HC0.out);rintro e w56 ⟨v299,v302,v305,v308,v311,rfl,ho0,ho1,ho2,ho3,ho4,hb⟩;refine ⟨_,rfl,?_⟩;have n0_:=Aside0.mk (Kd.V_lower (Kd.V_mono (ok':=fun k_ => True) ho0 (fun k_ hk_ => trivial)) (below_size (Up.Bup HB)));have n1_:=Aside0.mk (Kd.V_lower (Kd.V_mono (ok':=fun k_ => True) ho1 (fun k_ hk_ => trivial)) (below_size (Up.Bup HB)));have n2_:=Aside0.mk (Kd.V_lower (Kd.V_mono (ok':=fun k_ => True) ho2 (fun k_ hk_ => trivial)) (below_size (Up.Bup HB)));have n3_:=Aside0.mk (Kd.V_lower (Kd.V_mono (ok':=fun k_ => True) ho3 (fun k_ hk_ => trivial)) (below_size (Up.Bup HB)));have n4_:=Aside0.mk (Kd.V_lower (Kd.V_mono (ok':=fun k_ => True) ho4 (fun k_ hk_ => trivial)) (below_size (Up.Bup HB)));have n5_:=Up.BB HB hb;clear HB;have HO300:=n0_;have HO303:=n1_;have HO306:=n2_;have HO309:=n3_;have HO312:=n4_;have HB:=n5_;clear n0_ n1_ n2_ n3_ n4_ n5_;(try clear hb);(try clear hb2);(try clear hk);(try clear hi);(try clear ho0);(try clear ho1);(try clear ho2);(try clear ho3);(try clear ho4)) | ((with_reducible refine gate_dst (N:=9) rfl ?_);(try (refine gate_guard (by rfl) ?_;dsimp only));refine box_event ?hg (N:=9) ?hd (cs:=#[.int .i64 0,.slice none 0 0,.slice none 0 0,.slice none 0 0,.slice none 0 0,.slice none 0 0]) (t:=39) ?hr ?_;(case hd => rfl);(case hg => rfl);(case hr => first | (go_simp;done) | (go_simp;rfl));intro gb314 hg w57 hbox hb;have n0_:=Aside0.mk (Kd.V_below (Kd.V_elderB (Up.Vup HO300) gb314 (Nat.le_of_eq hg.symm)) hb);have n1_:=Aside0.mk (Kd.V_below (Kd.V_elderB (Up.Vup HO303) gb314 (Nat.le_of_eq hg.symm)) hb);have n2_:=Aside0.mk (Kd.V_below (Kd.V_elderB (Up.Vup HO306) gb314 (Nat.le_of_eq hg.symm)) hb);have n3_:=Aside0.mk (Kd.V_below (Kd.V_elderB (Up.Vup HO309) gb314 (Nat.le_of_eq hg.symm)) hb);have n4_:=Aside0.mk (Kd.V_below (Kd.V_elderB (Up.Vup HO312) gb314 (Nat.le_of_eq hg.symm)) hb);have n5_:=Up.BB HB hb;have n6_:=Aside0.mk (hbox);have n7_:=Aside0.mk ((by rw [hg];exact (below_size (Up.Bup HB)) : w.heap.size ≤ gb314));have n8_:=Aside0.mk ((by rw [hg];exact (below_size (Up.Bup HB)) : w.heap.size ≤ gb314));clear HO300;clear HO303;clear HO306;clear HO309;clear HO312;clear HB;have HO300:=n0_;have HO303:=n1_;have HO306:=n2_;have HO309:=n3_;have HO312:=n4_;have HB:=n5_;have BK314:=n6_;have GW314:=n7_;have GE314:=n8_;clear n0_ n1_ n2_ n3_ n4_ n5_ n6_ n7_ n8_;clear hb hbox hg;have hcz58_0 : w57.cell? ⟨gb314,0,none⟩ = some (.int .i64 0):=(blk_cell BK314.out 0).trans rfl;have hcz58_1 : w57.cell? ⟨gb314,1,none⟩ = some (.slice none 0 0):=(blk_cell BK314.out 1).trans rfl;have hcz58_2 : w57.cell? ⟨gb314,2,none⟩ = some (.slice none 0 0):=(blk_cell BK314.out 2).trans rfl;have hcz58_3 : w57.cell? ⟨gb314,3,none⟩ = some (.slice none 0 0):=(blk_cell BK314.out 3).trans rfl;have hcz58_4 : w57.cell? ⟨gb314,4,none⟩ = some (.slice none 0 0):=(blk_cell BK314.out 4).trans rfl;have hcz58_5 : w57.cell? ⟨gb314,5,none⟩ = some (.slice none 0 0):=(blk_cell BK314.out 5).trans rfl;have hfz58_0:=blk_frozen BK314.out 0;have hfz58_1:=blk_frozen BK314.out 1;have hfz58_2:=blk_frozen BK314.out 2;have hfz58_3:=blk_frozen BK314.out 3;have hfz58_4:=blk_frozen BK314.out 4;have hfz58_5:=blk_frozen BK314.out 5;obtain ⟨Ao59,co59,eo59⟩:=Kd.V_slice HO300.out;subst eo59;obtain ⟨Ao60,co60,eo60⟩:=Kd.V_slice HO303.out;subst eo60;obtain ⟨Ao61,co61,eo61⟩:=Kd.V_slice HO306.out;subst eo61;obtain ⟨Ao62,co62,eo62⟩:=Kd.V_slice HO309.out;subst eo62;obtain ⟨Ao63,co63,eo63⟩:=Kd.V_slice HO312.out;subst eo63;have p315 : 0 ≤ (a2 : Int):=of_decide_eq_true (by first | (with_reducible assumption) | assumption);have q315 : a2 < (l0.length : Int):=of_decide_eq_true (by first | (with_reducible assumption) | assumption);obtain ⟨ad315,A315_0,c315_0,A315_1,c315_1,A315_2,c315_2,e315,hx315_0,hx315_1,hx315_2,hl315_0,hi315_0,hl315_1,hi315_1,hl315_2,hi315_2⟩:=at_T55 HR0.out a2 p315 q315;cases e315;have hn315_0 : ad315.block ≠ gb314:=Nat.ne_of_lt (Nat.lt_of_lt_of_le (by have:=World.block_lt_of_cell? _ _ hx315_0;first | rwa [add_block] at this | exact this) GW314.out);have hn315_1 : ad315.block ≠ gb314:=Nat.ne_of_lt (Nat.lt_of_lt_of_le (by have:=World.block_lt_of_cell? _ _ hx315_0;first | rwa [add_block] at this | exact this) GW314.out);have hn315_2 : ad315.block ≠ gb314:=Nat.ne_of_lt (Nat.lt_of_lt_of_le (by have:=World.block_lt_of_cell? _ _ hx315_0;first | rwa [add_block] at this | exact this) GW314.out);have hn315_3 : ad315.block ≠ gb314:=Nat.ne_of_lt (Nat.lt_of_lt_of_le (by have:=World.block_lt_of_cell? _ _ hx315_0;first | rwa [add_block] at this | exact this) GW314.out);have hn315_4 : ad315.block ≠ gb314:=Nat.ne_of_lt (Nat.lt_of_lt_of_le (by have:=World.block_lt_of_cell? _ _ hx315_0;first | rwa [add_block] at this | exact this) GW314.out);have hn315_5 : ad315.block ≠ gb314:=Nat.ne_of_lt (Nat.lt_of_lt_of_le (by have:=World.block_lt_of_cell? _ _ hx315_0;first | rwa [add_block] at this | exact this) GW314.out);replace hx315_0:=(HB.out.cell (World.block_lt_of_cell? w _ hx315_0)).trans hx315_0;replace hx315_1:=(HB.out.cell (World.block_lt_of_cell? w _ hx315_1)).trans hx315_1;replace hx315_2:=(HB.out.cell (World.block_lt_of_cell? w _ hx315_2)).trans hx315_2;have HR315_0:=Aside0.mk hi315_0;have HC315_0:=Aside0.mk hl315_0;clear hi315_0 hl315_0;have HR315_1:=Aside0.mk hi315_1;have HC315_1:=Aside0.mk hl315_1;clear hi315_1 hl315_1;have HR315_2:=Aside0.mk hi315_2;have HC315_2:=Aside0.mk hl315_2;clear hi315_2 hl315_2;replace hx315_0:=(cell_far (p:=⟨gb314,0,none⟩) (by first | (rw [add_block];exact hn315_0) | (show (Addr.add _ _).block ≠ _;rw [add_block];exact hn315_0) | exact hn315_0) (.int .i64 t297)).trans hx315_0;replace hx315_1:=(cell_far (p:=⟨gb314,0,none⟩) (by first | (rw [add_block];exact hn315_0) | (show (Addr.add _ _).block ≠ _;rw [add_block];exact hn315_0) | exact hn315_0) (.int .i64 t297)).trans hx315_1;replace hx315_2:=(cell_far (p:=⟨gb314,0,none⟩) (by first | (rw [add_block];exact hn315_0) | (show (Addr.add _ _).block ≠ _;rw [add_block];exact hn315_0) | exact hn315_0) (.int .i64 t297)).trans hx315_2;replace hx315_0:=(cell_far (p:=⟨gb314,1,none⟩) (by first | (rw [add_block];exact hn315_1) | (show (Addr.add _ _).block ≠ _;rw [add_block];exact hn315_1) | exact hn315_1) (.slice Ao59 t298.length co59)).trans hx315_0;replace hx315_1:=(cell_far (p:=⟨gb314,1,none⟩) (by first | (rw [add_block];exact hn315_1) | (show (Addr.add _ _).block ≠ _;rw [add_block];exact hn315_1) | exact hn315_1) (.slice Ao59 t298.length co59)).trans hx315_1;replace hx315_2:=(cell_far (p:=⟨gb314,1,none⟩) (by first | (rw [add_block];exact hn315_1) | (show (Addr.add _ _).block ≠ _;rw [add_block];exact hn315_1) | exact hn315_1) (.slice Ao59 t298.length co59)).trans hx315_2;replace hx315_0:=(cell_far (p:=⟨gb314,2,none⟩) (by first | (rw [add_block];exact hn315_2) | (show (Addr.add _ _).block ≠ _;rw [add_block];exact hn315_2) | exact hn315_2) (.slice Ao60 t301.length co60)).trans hx315_0;replace hx315_1:=(cell_far (p:=⟨gb314,2,none⟩) (by first | (rw [add_block];exact hn315_2) | (show (Addr.add _ _).block ≠ _;rw [add_block];exact hn315_2) | exact hn315_2) (.slice Ao60 t301.length co60)).trans hx315_1;replace hx315_2:=(cell_far (p:=⟨gb314,2,none⟩) (by first | (rw [add_block];exact hn315_2) | (show (Addr.add _ _).block ≠ _;rw [add_block];exact hn315_2) | exact hn315_2) (.slice Ao60 t301.length co60)).trans hx315_2;replace hx315_0:=(cell_far (p:=⟨gb314,3,none⟩) (by first | (rw [add_block];exact hn315_3) | (show (Addr.add _ _).block ≠ _;rw [add_block];exact hn315_3) | exact hn315_3) (.slice Ao61 t304.length co61)).trans hx315_0;replace hx315_1:=(cell_far (p:=⟨gb314,3,none⟩) (by first | (rw [add_block];exact hn315_3) | (show (Addr.add _ _).block ≠ _;rw [add_block];exact hn315_3) | exact hn315_3) (.slice Ao61 t304.length co61)).trans hx315_1;replace hx315_2:=(cell_far (p:=⟨gb314,3,none⟩) (by first | (rw [add_block];exact hn315_3) | (show (Addr.add _ _).block ≠ _;rw [add_block];exact hn315_3) | exact hn315_3) (.slice Ao61 t304.length co61)).trans hx315_2;replace hx315_0:=(cell_far (p:=⟨gb314,4,none⟩) (by first | (rw [add_block];exact hn315_4) | (show (Addr.add _ _).block ≠ _;rw [add_block];exact hn315_4) | exact hn315_4) (.slice Ao62 t307.length co62)).trans hx315_0;replace hx315_1:=(cell_far (p:=⟨gb314,4,none⟩) (by first | (rw [add_block];exact hn315_4) | (show (Addr.add _ _).block ≠ _;rw [add_block];exact hn315_4) | exact hn315_4) (.slice Ao62 t307.length co62)).trans hx315_1;replace hx315_2:=(cell_far (p:=⟨gb314,4,none⟩) (by first | (rw [add_block];exact hn315_4) | (show (Addr.add _ _).block ≠ _;rw [add_block];exact hn315_4) | exact hn315_4) (.slice Ao62 t307.length co62)).trans hx315_2;replace hx315_0:=(cell_far (p:=⟨gb314,5,none⟩) (by first | (rw [add_block];exact hn315_5) | (show (Addr.add _ _).block ≠ _;rw [add_block];exact hn315_5) | exact hn315_5) (.slice Ao63 t310.length co63)).trans hx315_0;replace hx315_1:=(cell_far (p:=⟨gb314,5,none⟩) (by first | (rw [add_block];exact hn315_5) | (show (Addr.add _ _).block ≠ _;rw [add_block];exact hn315_5) | exact hn315_5) (.slice Ao63 t310.length co63)).trans hx315_1;replace hx315_2:=(cell_far (p:=⟨gb314,5,none⟩) (by first | (rw [add_block];exact hn315_5) | (show (Addr.add _ _).block ≠ _;rw [add_block];exact hn315_5) | exact hn315_5) (.slice Ao63 t310.length co63)).trans hx315_2;clear hn315_0;clear hn315_1;clear hn315_2;clear hn315_3;clear hn315_4;clear hn315_5;replace p315:=eq_true p315;replace q315:=eq_true q315) | (go_at_call 27;(with_reducible refine (slices_Contains_int_int.calls k _ _ ((rd_T55 l0 a2).f2) a1 t316 _ ?side1 ?side2 A55.out).mono ?_);(case side1 => exact Kd.C_below HR315_2.out (by repeat (first | (with_reducible first | exact HB.out | apply below_alloc | apply pw_below_drewN | apply below_drew1 | refine below_set ?_ GE314.out) | exact HB.out)));(case side2 => exact HC315_2.out);rintro e w' ⟨rfl,⟨nd,rfl⟩⟩))
          go_ret
          exact ⟨by first | rfl | (simp [errW_none,errW_some] <;> rfl) | (simp [*,errW_none,errW_some] <;> rfl),by repeat (first | (with_reducible first | exact HB.out | apply below_alloc | apply pw_below_drewN | apply below_drew1 | refine below_set ?_ GE314.out) | exact HB.out)⟩
         ·rw [if_neg c54] at H
          exact absurd H (by simp)
        ·rw [if_neg c53] at H
         exact absurd H (by simp)
       ·rw [if_neg c52] at H
        have c52b0 : (t297 == 1) = false:=beq_eq_false_iff_ne.mpr c52
        have c52b1 : (t297 != 1) = true:=bne_iff_ne.mpr c52
        obtain rfl:=Option.some.inj H
        go_enter Try.func9,Try.ntmps9
        go_wp2_with (first | ((with_reducible refine gate_callee (f:=18) rfl ?_);refine goesL_ (some 15) rfl rfl Try.func18 (by kernel_rfl) rfl #[.slice A0 l0.length c0,.int .i64 a2,.int .i64 a3] rfl (by (try simp only [List.map_toArray,List.map_cons,List.map_nil]);first | done | rfl | (simp only [List.length_drop,List.length_take];rfl)) ?_;(with_reducible refine (impl_ShelfFunc.calls _ _ l0 a2 a3 t297 t298 t301 t304 t307 t310 true _ ?side1 ?side2 A5.out).mono ?_);(case side1 => repeat (first | exact HR0.out | (with_reducible refine Kd.C_alloc ?_ _) | (with_reducible refine Kd.C_drewN ?_ _) | (with_reducible refine Kd.C_drew ?_)));(case side2 => exact HC0.out);rintro e w64 ⟨v299,v302,v305,v308,v311,rfl,ho0,ho1,ho2,ho3,ho4,hb⟩;refine ⟨_,rfl,?_⟩;have n0_:=Aside0.mk (Kd.V_lower (Kd.V_mono (ok':=fun k_ => True) ho0 (fun k_ hk_ => trivial)) (below_size (Up.Bup HB)));have n1_:=Aside0.mk (Kd.V_lower (Kd.V_mono (ok':=fun k_ => True) ho1 (fun k_ hk_ => trivial)) (below_size (Up.Bup HB)));have n2_:=Aside0.mk (Kd.V_lower (Kd.V_mono (ok':=fun k_ => True) ho2 (fun k_ hk_ => trivial)) (below_size (Up.Bup HB)));have n3_:=Aside0.mk (Kd.V_lower (Kd.V_mono (ok':=fun k_ => True) ho3 (fun k_ hk_ => trivial)) (below_size (Up.Bup HB)));have n4_:=Aside0.mk (Kd.V_lower (Kd.V_mono (ok':=fun k_ => True) ho4 (fun k_ hk_ => trivial)) (below_size (Up.Bup HB)));have n5_:=Up.BB HB hb;clear HB;have HO300:=n0_;have HO303:=n1_;have HO306:=n2_;have HO309:=n3_;have HO312:=n4_;have HB:=n5_;clear n0_ n1_ n2_ n3_ n4_ n5_;(try clear hb);(try clear hb2);(try clear hk);(try clear hi);(try clear ho0);(try clear ho1);(try clear ho2);(try clear ho3);(try clear ho4)) | ((with_reducible refine gate_dst (N:=9) rfl ?_);(try (refine gate_guard (by rfl) ?_;dsimp only));refine box_event ?hg (N:=9) ?hd (cs:=#[.int .i64 0,.slice none 0 0,.slice none 0 0,.slice none 0 0,.slice none 0 0,.slice none 0 0]) (t:=39) ?hr ?_;(case hd => rfl);(case hg => rfl);(case hr => first | (go_simp;done) | (go_simp;rfl));intro gb314 hg w65 hbox hb;have n0_:=Aside0.mk (Kd.V_below (Kd.V_elderB (Up.Vup HO300) gb314 (Nat.le_of_eq hg.symm)) hb);have n1_:=Aside0.mk (Kd.V_below (Kd.V_elderB (Up.Vup HO303) gb314 (Nat.le_of_eq hg.symm)) hb);have n2_:=Aside0.mk (Kd.V_below (Kd.V_elderB (Up.Vup HO306) gb314 (Nat.le_of_eq hg.symm)) hb);have n3_:=Aside0.mk (Kd.V_below (Kd.V_elderB (Up.Vup HO309) gb314 (Nat.le_of_eq hg.symm)) hb);have n4_:=Aside0.mk (Kd.V_below (Kd.V_elderB (Up.Vup HO312) gb314 (Nat.le_of_eq hg.symm)) hb);have n5_:=Up.BB HB hb;have n6_:=Aside0.mk (hbox);have n7_:=Aside0.mk ((by rw [hg];exact (below_size (Up.Bup HB)) : w.heap.size ≤ gb314));have n8_:=Aside0.mk ((by rw [hg];exact (below_size (Up.Bup HB)) : w.heap.size ≤ gb314));clear HO300;clear HO303;clear HO306;clear HO309;clear HO312;clear HB;have HO300:=n0_;have HO303:=n1_;have HO306:=n2_;have HO309:=n3_;have HO312:=n4_;have HB:=n5_;have BK314:=n6_;have GW314:=n7_;have GE314:=n8_;clear n0_ n1_ n2_ n3_ n4_ n5_ n6_ n7_ n8_;clear hb hbox hg;have hcz66_0 : w65.cell? ⟨gb314,0,none⟩ = some (.int .i64 0):=(blk_cell BK314.out 0).trans rfl;have hcz66_1 : w65.cell? ⟨gb314,1,none⟩ = some (.slice none 0 0):=(blk_cell BK314.out 1).trans rfl;have hcz66_2 : w65.cell? ⟨gb314,2,none⟩ = some (.slice none 0 0):=(blk_cell BK314.out 2).trans rfl;have hcz66_3 : w65.cell? ⟨gb314,3,none⟩ = some (.slice none 0 0):=(blk_cell BK314.out 3).trans rfl;have hcz66_4 : w65.cell? ⟨gb314,4,none⟩ = some (.slice none 0 0):=(blk_cell BK314.out 4).trans rfl;have hcz66_5 : w65.cell? ⟨gb314,5,none⟩ = some (.slice none 0 0):=(blk_cell BK314.out 5).trans rfl;have hfz66_0:=blk_frozen BK314.out 0;have hfz66_1:=blk_frozen BK314.out 1;have hfz66_2:=blk_frozen BK314.out 2;have hfz66_3:=blk_frozen BK314.out 3;have hfz66_4:=blk_frozen BK314.out 4;have hfz66_5:=blk_frozen BK314.out 5;obtain ⟨Ao67,co67,eo67⟩:=Kd.V_slice HO300.out;subst eo67;obtain ⟨Ao68,co68,eo68⟩:=Kd.V_slice HO303.out;subst eo68;obtain ⟨Ao69,co69,eo69⟩:=Kd.V_slice HO306.out;subst eo69;obtain ⟨Ao70,co70,eo70⟩:=Kd.V_slice HO309.out;subst eo70;obtain ⟨Ao71,co71,eo71⟩:=Kd.V_slice HO312.out;subst eo71))
        go_ret
        exact ⟨by first | rfl | (simp [errW_none,errW_some] <;> rfl) | (simp [*,errW_none,errW_some] <;> rfl),by repeat (first | (with_reducible first | exact HB.out | apply below_alloc | apply pw_below_drewN | apply below_drew1 | refine below_set ?_ GE314.out) | exact HB.out)⟩
 ·replace c6:=Bool.eq_false_iff.mpr c6
  subst c6
  have H1 : (some false) = some r:=by rw [if_neg (show ¬ (false = true) by decide)] at H;exact H
  clear H
  have H:=H1
  clear H1
  obtain rfl:=Option.some.inj H
  go_enter Try.func9,Try.ntmps9
  go_wp2_with (first | ((with_reducible refine gate_callee (f:=18) rfl ?_);refine goesL_ (some 15) rfl rfl Try.func18 (by kernel_rfl) rfl #[.slice A0 l0.length c0,.int .i64 a2,.int .i64 a3] rfl (by (try simp only [List.map_toArray,List.map_cons,List.map_nil]);first | done | rfl | (simp only [List.length_drop,List.length_take];rfl)) ?_;(with_reducible refine (impl_ShelfFunc.calls _ _ l0 a2 a3 t297 t298 t301 t304 t307 t310 false _ ?side1 ?side2 A5.out).mono ?_);(case side1 => repeat (first | exact HR0.out | (with_reducible refine Kd.C_alloc ?_ _) | (with_reducible refine Kd.C_drewN ?_ _) | (with_reducible refine Kd.C_drew ?_)));(case side2 => exact HC0.out);rintro e w72 ⟨v299,v302,v305,v308,v311,rfl,ho0,ho1,ho2,ho3,ho4,hb⟩;refine ⟨_,rfl,?_⟩;have n0_:=Aside0.mk (Kd.V_lower (Kd.V_mono (ok':=fun k_ => True) ho0 (fun k_ hk_ => trivial)) (below_size (Up.Bup HB)));have n1_:=Aside0.mk (Kd.V_lower (Kd.V_mono (ok':=fun k_ => True) ho1 (fun k_ hk_ => trivial)) (below_size (Up.Bup HB)));have n2_:=Aside0.mk (Kd.V_lower (Kd.V_mono (ok':=fun k_ => True) ho2 (fun k_ hk_ => trivial)) (below_size (Up.Bup HB)));have n3_:=Aside0.mk (Kd.V_lower (Kd.V_mono (ok':=fun k_ => True) ho3 (fun k_ hk_ => trivial)) (below_size (Up.Bup HB)));have n4_:=Aside0.mk (Kd.V_lower (Kd.V_mono (ok':=fun k_ => True) ho4 (fun k_ hk_ => trivial)) (below_size (Up.Bup HB)));have n5_:=Up.BB HB hb;clear HB;have HO300:=n0_;have HO303:=n1_;have HO306:=n2_;have HO309:=n3_;have HO312:=n4_;have HB:=n5_;clear n0_ n1_ n2_ n3_ n4_ n5_;(try clear hb);(try clear hb2);(try clear hk);(try clear hi);(try clear ho0);(try clear ho1);(try clear ho2);(try clear ho3);(try clear ho4)) | ((with_reducible refine gate_dst (N:=9) rfl ?_);(try (refine gate_guard (by rfl) ?_;dsimp only));refine box_event ?hg (N:=9) ?hd (cs:=#[.int .i64 0,.slice none 0 0,.slice none 0 0,.slice none 0 0,.slice none 0 0,.slice none 0 0]) (t:=39) ?hr ?_;(case hd => rfl);(case hg => rfl);(case hr => first | (go_simp;done) | (go_simp;rfl));intro gb314 hg w73 hbox hb;have n0_:=Aside0.mk (Kd.V_below (Kd.V_elderB (Up.Vup HO300) gb314 (Nat.le_of_eq hg.symm)) hb);have n1_:=Aside0.mk (Kd.V_below (Kd.V_elderB (Up.Vup HO303) gb314 (Nat.le_of_eq hg.symm)) hb);have n2_:=Aside0.mk (Kd.V_below (Kd.V_elderB (Up.Vup HO306) gb314 (Nat.le_of_eq hg.symm)) hb);have n3_:=Aside0.mk (Kd.V_below (Kd.V_elderB (Up.Vup HO309) gb314 (Nat.le_of_eq hg.symm)) hb);have n4_:=Aside0.mk (Kd.V_below (Kd.V_elderB (Up.Vup HO312) gb314 (Nat.le_of_eq hg.symm)) hb);have n5_:=Up.BB HB hb;have n6_:=Aside0.mk (hbox);have n7_:=Aside0.mk ((by rw [hg];exact (below_size (Up.Bup HB)) : w.heap.size ≤ gb314));have n8_:=Aside0.mk ((by rw [hg];exact (below_size (Up.Bup HB)) : w.heap.size ≤ gb314));clear HO300;clear HO303;clear HO306;clear HO309;clear HO312;clear HB;have HO300:=n0_;have HO303:=n1_;have HO306:=n2_;have HO309:=n3_;have HO312:=n4_;have HB:=n5_;have BK314:=n6_;have GW314:=n7_;have GE314:=n8_;clear n0_ n1_ n2_ n3_ n4_ n5_ n6_ n7_ n8_;clear hb hbox hg;have hcz74_0 : w73.cell? ⟨gb314,0,none⟩ = some (.int .i64 0):=(blk_cell BK314.out 0).trans rfl;have hcz74_1 : w73.cell? ⟨gb314,1,none⟩ = some (.slice none 0 0):=(blk_cell BK314.out 1).trans rfl;have hcz74_2 : w73.cell? ⟨gb314,2,none⟩ = some (.slice none 0 0):=(blk_cell BK314.out 2).trans rfl;have hcz74_3 : w73.cell? ⟨gb314,3,none⟩ = some (.slice none 0 0):=(blk_cell BK314.out 3).trans rfl;have hcz74_4 : w73.cell? ⟨gb314,4,none⟩ = some (.slice none 0 0):=(blk_cell BK314.out 4).trans rfl;have hcz74_5 : w73.cell? ⟨gb314,5,none⟩ = some (.slice none 0 0):=(blk_cell BK314.out 5).trans rfl;have hfz74_0:=blk_frozen BK314.out 0;have hfz74_1:=blk_frozen BK314.out 1;have hfz74_2:=blk_frozen BK314.out 2;have hfz74_3:=blk_frozen BK314.out 3;have hfz74_4:=blk_frozen BK314.out 4;have hfz74_5:=blk_frozen BK314.out 5;obtain ⟨Ao75,co75,eo75⟩:=Kd.V_slice HO300.out;subst eo75;obtain ⟨Ao76,co76,eo76⟩:=Kd.V_slice HO303.out;subst eo76;obtain ⟨Ao77,co77,eo77⟩:=Kd.V_slice HO306.out;subst eo77;obtain ⟨Ao78,co78,eo78⟩:=Kd.V_slice HO309.out;subst eo78;obtain ⟨Ao79,co79,eo79⟩:=Kd.V_slice HO312.out;subst eo79))
  go_ret
  exact ⟨by first | rfl | (simp [errW_none,errW_some] <;> rfl) | (simp [*,errW_none,errW_some] <;> rfl),by repeat (first | (with_reducible first | exact HB.out | apply below_alloc | apply pw_below_drewN | apply below_drew1 | refine below_set ?_ GE314.out) | exact HB.out)⟩

end Go.Proofs.Ytcdamcfklehedaa.OFnExactFuncSeen
