-- Laid by a program of this session (wip/myprint.py): the kit's print of the functions, contracts of our own among them.
import Derived.Test.YtfkhjnmgaadomaaDoorOFnInsReadx0
import Derived.Test.YtfkhjnmgaadomaaDoorOFnInsReadx2
namespace Go.Proofs.YtfkhjnmgaadomaaDoor.OFnInsRead
open Go.RowKit Go.Proofs.YtfkhjnmgaadomaaDoorW.PrintWords Go.Proofs.YtfkhjnmgaadomaaDoorW.PrintLast Go.Proofs.YtfkhjnmgaadomaaDoorW.PrintMore
attribute [local go_sem] max2_int min2_int max_two min_two max_three min_three max_four min_four   -- for this text's walks alone
set_option linter.unusedVariables false
set_option linter.unusedSimpArgs false

/-! ### impl_InsText: function 23 -/
def impl_InsText.f (k : Nat) (a0_0 : ByteArray) (a0_1 : Int) (a0_2 : Int) : Option (ByteArray):=(impl_InsOk.f k a0_0 a0_1 a0_2).bind fun t168 => (if t168 = true then ((impl_insText.f k a0_0 a0_1 a0_2).bind fun t169 => (some t169)) else (some (⟨#[]⟩ : ByteArray)))
theorem impl_InsText.mono : ∀ a0 a1 a2 k,LeO (impl_InsText.f k a0 a1 a2) (impl_InsText.f (k + 1) a0 a1 a2):=by
 intro a0 a1 a2 k
 unfold impl_InsText.f
 repeat' first
   | (with_reducible exact impl_InsOk.mono _ _ _ _)
   | (with_reducible exact impl_insText.mono _ _ _ _)
   | (with_reducible exact LeO.refl _)
   | (with_reducible exact LeO.none _)
   | (with_reducible refine LeO.ite ?_ ?_)
   | (with_reducible refine LeO.bind ?_ (fun _ => ?_))
   | exact impl_InsOk.mono _ _ _ _
   | exact impl_insText.mono _ _ _ _
   | exact LeO.none _
   | refine LeO.ite ?_ ?_
   | refine LeO.bind ?_ (fun _ => ?_)
set_option maxHeartbeats 8000000 in
set_option maxRecDepth 100000 in
theorem impl_InsText.calls (k : Nat) (a0_0 : ByteArray) (a0_1 : Int) (a0_2 : Int) (r : ByteArray) (w : World) (hT_ : Tab w) (h : impl_InsText.f k a0_0 a0_1 a0_2 = some r) :
  Calls Tryd.prog 23 #[.agg #[.string a0_0,.int .i64 a0_1,.int .i64 a0_2]] w fun e w' => e = .returned (.string r) ∧ Below w.heap.size w w':=by
 have hu26:=Tryd.underlying26
 have HB:=Aside0.mk (Below.refl w.heap.size w)
 have H : ((impl_InsOk.f k a0_0 a0_1 a0_2).bind fun t168 => (if t168 = true then ((impl_insText.f k a0_0 a0_1 a0_2).bind fun t169 => (some t169)) else (some (⟨#[]⟩ : ByteArray)))) = some r:=h
 clear h
 replace H:=Option.bind_eq_some_iff.mp H
 obtain ⟨t168,A20,H⟩:=H
 replace H : (if t168 = true then ((impl_insText.f k a0_0 a0_1 a0_2).bind fun t169 => (some t169)) else (some (⟨#[]⟩ : ByteArray))) = some r:=H
 have A2:=Aside0.mk A20
 clear A20
 by_cases c3 : t168 = true
 ·subst c3
  have H1 : ((impl_insText.f k a0_0 a0_1 a0_2).bind fun t169 => (some t169)) = some r:=by rw [if_pos rfl] at H;exact H
  clear H
  have H:=H1
  clear H1
  replace H:=Option.bind_eq_some_iff.mp H
  obtain ⟨t169,A40,H⟩:=H
  replace H : (some t169) = some r:=H
  have A4:=Aside0.mk A40
  clear A40
  obtain rfl:=Option.some.inj H
  go_enter Tryd.func23,Tryd.ntmps23
  go_wp2_with (first | ((with_reducible refine gate_dst (N:=1) rfl ?_);refine Up.bx 1 26 #[.string a0_0,.int .i64 a0_1,.int .i64 a0_2] ?_;intro gb167 hg w5 hbox hb;have n0_:=Up.BB HB hb;have n1_:=Aside0.mk (hbox);have n2_:=Up.gw hg HB;have n3_:=Up.gw hg HB;clear HB;have HB:=n0_;have BK167:=n1_;have GW167:=n2_;have GE167:=n3_;clear n0_ n1_ n2_ n3_ hb hbox hg;have hcz6_0:=Up.c0 BK167;have hcz6_1:=Up.c1 BK167;have hcz6_2:=Up.c2 BK167;have hfz6_0:=blk_frozen BK167.out 0;have hfz6_1:=blk_frozen BK167.out 1;have hfz6_2:=blk_frozen BK167.out 2) | ((with_reducible refine gate_callee (f:=14) rfl ?_);refine Up.gl (some 4) Tryd.func14 #[.agg #[.string a0_0,.int .i64 a0_1,.int .i64 a0_2]] ?_;(with_reducible refine (impl_InsOk.calls (hT_:=?tab1) k a0_0 a0_1 a0_2 true _ A2.out).mono ?_);(case tab1 => exact hT_.below (Up.Bx HB));rintro e w7 ⟨rfl,hb⟩;refine ⟨_,rfl,?_⟩;have n0_:=Up.KB BK167 hb;have n1_:=Aside0.mk (below_step (Up.Bx HB) hb);clear BK167 HB;have BK167:=n0_;have HB:=n1_;clear n0_ n1_;(try clear hb);(try clear hb2);(try clear hk);(try clear hi);have hcz8_0:=Up.c0 BK167;have hcz8_1:=Up.c1 BK167;have hcz8_2:=Up.c2 BK167;have hfz8_0:=blk_frozen BK167.out 0;have hfz8_1:=blk_frozen BK167.out 1;have hfz8_2:=blk_frozen BK167.out 2) | ((with_reducible refine gate_callee (f:=39) rfl ?_);refine Up.gl (some 7) Tryd.func39 #[.agg #[.string a0_0,.int .i64 a0_1,.int .i64 a0_2]] ?_;(with_reducible refine (impl_insText.calls (hT_:=?tab1) k a0_0 a0_1 a0_2 t169 _ A4.out).mono ?_);(case tab1 => exact hT_.below (Up.Bx HB));rintro e w9 ⟨rfl,hb⟩;refine ⟨_,rfl,?_⟩;have n0_:=Up.KB BK167 hb;have n1_:=Aside0.mk (below_step (Up.Bx HB) hb);clear BK167 HB;have BK167:=n0_;have HB:=n1_;clear n0_ n1_;(try clear hb);(try clear hb2);(try clear hk);(try clear hi)))
  go_ret
  exact Up.e1 (Up.Bx HB)
 ·replace c3:=Bool.eq_false_iff.mpr c3
  subst c3
  have H1 : (some (⟨#[]⟩ : ByteArray)) = some r:=by rw [if_neg (show ¬ (false = true) by decide)] at H;exact H
  clear H
  have H:=H1
  clear H1
  obtain rfl:=Option.some.inj H
  go_enter Tryd.func23,Tryd.ntmps23
  go_wp2_with (first | ((with_reducible refine gate_dst (N:=1) rfl ?_);refine Up.bx 1 26 #[.string a0_0,.int .i64 a0_1,.int .i64 a0_2] ?_;intro gb167 hg w10 hbox hb;have n0_:=Up.BB HB hb;have n1_:=Aside0.mk (hbox);have n2_:=Up.gw hg HB;have n3_:=Up.gw hg HB;clear HB;have HB:=n0_;have BK167:=n1_;have GW167:=n2_;have GE167:=n3_;clear n0_ n1_ n2_ n3_ hb hbox hg;have hcz11_0:=Up.c0 BK167;have hcz11_1:=Up.c1 BK167;have hcz11_2:=Up.c2 BK167;have hfz11_0:=blk_frozen BK167.out 0;have hfz11_1:=blk_frozen BK167.out 1;have hfz11_2:=blk_frozen BK167.out 2) | ((with_reducible refine gate_callee (f:=14) rfl ?_);refine Up.gl (some 4) Tryd.func14 #[.agg #[.string a0_0,.int .i64 a0_1,.int .i64 a0_2]] ?_;(with_reducible refine (impl_InsOk.calls (hT_:=?tab1) k a0_0 a0_1 a0_2 false _ A2.out).mono ?_);(case tab1 => exact hT_.below (Up.Bx HB));rintro e w12 ⟨rfl,hb⟩;refine ⟨_,rfl,?_⟩;have n0_:=Up.KB BK167 hb;have n1_:=Aside0.mk (below_step (Up.Bx HB) hb);clear BK167 HB;have BK167:=n0_;have HB:=n1_;clear n0_ n1_;(try clear hb);(try clear hb2);(try clear hk);(try clear hi)))
  go_ret
  exact Up.e1 (Up.Bx HB)

/-! ### spec_l3Table: function 36 -/
def spec_l3Table.f  : Option ((List (S26))):=some (([(⟨(⟨#[110,117,109]⟩ : ByteArray),1000001,0⟩ : S26),(⟨(⟨#[116,114,117,101]⟩ : ByteArray),0,0⟩ : S26),(⟨(⟨#[102,97,108,115,101]⟩ : ByteArray),0,0⟩ : S26),(⟨(⟨#[109,101]⟩ : ByteArray),0,0⟩ : S26),(⟨(⟨#[97,100,100]⟩ : ByteArray),0,0⟩ : S26),(⟨(⟨#[115,117,98]⟩ : ByteArray),0,0⟩ : S26),(⟨(⟨#[109,117,108]⟩ : ByteArray),0,0⟩ : S26),(⟨(⟨#[100,105,118]⟩ : ByteArray),0,0⟩ : S26),(⟨(⟨#[109,111,100]⟩ : ByteArray),0,0⟩ : S26),(⟨(⟨#[108,101,115,115]⟩ : ByteArray),0,0⟩ : S26),(⟨(⟨#[115,97,109,101]⟩ : ByteArray),0,0⟩ : S26),(⟨(⟨#[97,110,100]⟩ : ByteArray),0,0⟩ : S26),(⟨(⟨#[111,114]⟩ : ByteArray),0,0⟩ : S26),(⟨(⟨#[110,111,116]⟩ : ByteArray),0,0⟩ : S26),(⟨(⟨#[99,111,112,121]⟩ : ByteArray),6,0⟩ : S26),(⟨(⟨#[109,111,118,101]⟩ : ByteArray),6,0⟩ : S26),(⟨(⟨#[112,117,116]⟩ : ByteArray),6,0⟩ : S26),(⟨(⟨#[100,114,111,112]⟩ : ByteArray),0,0⟩ : S26),(⟨(⟨#[112,97,99,107]⟩ : ByteArray),3,0⟩ : S26),(⟨(⟨#[117,110,112,97,99,107]⟩ : ByteArray),3,0⟩ : S26),(⟨(⟨#[108,101,110,100]⟩ : ByteArray),6,0⟩ : S26),(⟨(⟨#[108,101,110,100,119]⟩ : ByteArray),6,0⟩ : S26),(⟨(⟨#[102,105,101,108,100]⟩ : ByteArray),3,3⟩ : S26),(⟨(⟨#[114,101,97,100]⟩ : ByteArray),0,0⟩ : S26),(⟨(⟨#[112,101,101,107]⟩ : ByteArray),0,0⟩ : S26),(⟨(⟨#[119,114,105,116,101]⟩ : ByteArray),0,0⟩ : S26),(⟨(⟨#[102,114,101,101,122,101]⟩ : ByteArray),0,0⟩ : S26),(⟨(⟨#[107,101,101,112]⟩ : ByteArray),3,0⟩ : S26),(⟨(⟨#[116,97,107,101]⟩ : ByteArray),3,0⟩ : S26),(⟨(⟨#[104,97,115]⟩ : ByteArray),3,0⟩ : S26),(⟨(⟨#[115,101,101]⟩ : ByteArray),3,0⟩ : S26),(⟨(⟨#[115,101,101,119]⟩ : ByteArray),3,0⟩ : S26),(⟨(⟨#[106,117,109,112]⟩ : ByteArray),40,0⟩ : S26),(⟨(⟨#[122,101,114,111]⟩ : ByteArray),40,0⟩ : S26),(⟨(⟨#[99,97,108,108]⟩ : ByteArray),3,4⟩ : S26),(⟨(⟨#[114,101,116]⟩ : ByteArray),0,0⟩ : S26),(⟨(⟨#[102,97,105,108]⟩ : ByteArray),0,0⟩ : S26)] : List (S26)))
set_option maxHeartbeats 8000000 in
set_option maxRecDepth 100000 in
theorem spec_l3Table.calls  (r : List (S26)) (w : World) (h : spec_l3Table.f  = some r) :
  Calls Tryd.prog 36 #[] w fun e w' => ∃ v0_ : Value,e = .returned (v0_) ∧ Kd.R k26 26 w' w.heap.size (fun _ => True) v0_ r ∧ Below w.heap.size w w':=by
 have hu26:=Tryd.underlying26
 have HB:=Aside0.mk (Below.refl w.heap.size w)
 have H : (some (([(⟨(⟨#[110,117,109]⟩ : ByteArray),1000001,0⟩ : S26),(⟨(⟨#[116,114,117,101]⟩ : ByteArray),0,0⟩ : S26),(⟨(⟨#[102,97,108,115,101]⟩ : ByteArray),0,0⟩ : S26),(⟨(⟨#[109,101]⟩ : ByteArray),0,0⟩ : S26),(⟨(⟨#[97,100,100]⟩ : ByteArray),0,0⟩ : S26),(⟨(⟨#[115,117,98]⟩ : ByteArray),0,0⟩ : S26),(⟨(⟨#[109,117,108]⟩ : ByteArray),0,0⟩ : S26),(⟨(⟨#[100,105,118]⟩ : ByteArray),0,0⟩ : S26),(⟨(⟨#[109,111,100]⟩ : ByteArray),0,0⟩ : S26),(⟨(⟨#[108,101,115,115]⟩ : ByteArray),0,0⟩ : S26),(⟨(⟨#[115,97,109,101]⟩ : ByteArray),0,0⟩ : S26),(⟨(⟨#[97,110,100]⟩ : ByteArray),0,0⟩ : S26),(⟨(⟨#[111,114]⟩ : ByteArray),0,0⟩ : S26),(⟨(⟨#[110,111,116]⟩ : ByteArray),0,0⟩ : S26),(⟨(⟨#[99,111,112,121]⟩ : ByteArray),6,0⟩ : S26),(⟨(⟨#[109,111,118,101]⟩ : ByteArray),6,0⟩ : S26),(⟨(⟨#[112,117,116]⟩ : ByteArray),6,0⟩ : S26),(⟨(⟨#[100,114,111,112]⟩ : ByteArray),0,0⟩ : S26),(⟨(⟨#[112,97,99,107]⟩ : ByteArray),3,0⟩ : S26),(⟨(⟨#[117,110,112,97,99,107]⟩ : ByteArray),3,0⟩ : S26),(⟨(⟨#[108,101,110,100]⟩ : ByteArray),6,0⟩ : S26),(⟨(⟨#[108,101,110,100,119]⟩ : ByteArray),6,0⟩ : S26),(⟨(⟨#[102,105,101,108,100]⟩ : ByteArray),3,3⟩ : S26),(⟨(⟨#[114,101,97,100]⟩ : ByteArray),0,0⟩ : S26),(⟨(⟨#[112,101,101,107]⟩ : ByteArray),0,0⟩ : S26),(⟨(⟨#[119,114,105,116,101]⟩ : ByteArray),0,0⟩ : S26),(⟨(⟨#[102,114,101,101,122,101]⟩ : ByteArray),0,0⟩ : S26),(⟨(⟨#[107,101,101,112]⟩ : ByteArray),3,0⟩ : S26),(⟨(⟨#[116,97,107,101]⟩ : ByteArray),3,0⟩ : S26),(⟨(⟨#[104,97,115]⟩ : ByteArray),3,0⟩ : S26),(⟨(⟨#[115,101,101]⟩ : ByteArray),3,0⟩ : S26),(⟨(⟨#[115,101,101,119]⟩ : ByteArray),3,0⟩ : S26),(⟨(⟨#[106,117,109,112]⟩ : ByteArray),40,0⟩ : S26),(⟨(⟨#[122,101,114,111]⟩ : ByteArray),40,0⟩ : S26),(⟨(⟨#[99,97,108,108]⟩ : ByteArray),3,4⟩ : S26),(⟨(⟨#[114,101,116]⟩ : ByteArray),0,0⟩ : S26),(⟨(⟨#[102,97,105,108]⟩ : ByteArray),0,0⟩ : S26)] : List (S26)))) = some r:=h
 clear h
 obtain ⟨y170,hy170⟩ : ∃ y_ : List (S26),y_ = (([(⟨(⟨#[110,117,109]⟩ : ByteArray),1000001,0⟩ : S26),(⟨(⟨#[116,114,117,101]⟩ : ByteArray),0,0⟩ : S26),(⟨(⟨#[102,97,108,115,101]⟩ : ByteArray),0,0⟩ : S26),(⟨(⟨#[109,101]⟩ : ByteArray),0,0⟩ : S26),(⟨(⟨#[97,100,100]⟩ : ByteArray),0,0⟩ : S26),(⟨(⟨#[115,117,98]⟩ : ByteArray),0,0⟩ : S26),(⟨(⟨#[109,117,108]⟩ : ByteArray),0,0⟩ : S26),(⟨(⟨#[100,105,118]⟩ : ByteArray),0,0⟩ : S26),(⟨(⟨#[109,111,100]⟩ : ByteArray),0,0⟩ : S26),(⟨(⟨#[108,101,115,115]⟩ : ByteArray),0,0⟩ : S26),(⟨(⟨#[115,97,109,101]⟩ : ByteArray),0,0⟩ : S26),(⟨(⟨#[97,110,100]⟩ : ByteArray),0,0⟩ : S26),(⟨(⟨#[111,114]⟩ : ByteArray),0,0⟩ : S26),(⟨(⟨#[110,111,116]⟩ : ByteArray),0,0⟩ : S26),(⟨(⟨#[99,111,112,121]⟩ : ByteArray),6,0⟩ : S26),(⟨(⟨#[109,111,118,101]⟩ : ByteArray),6,0⟩ : S26),(⟨(⟨#[112,117,116]⟩ : ByteArray),6,0⟩ : S26),(⟨(⟨#[100,114,111,112]⟩ : ByteArray),0,0⟩ : S26),(⟨(⟨#[112,97,99,107]⟩ : ByteArray),3,0⟩ : S26),(⟨(⟨#[117,110,112,97,99,107]⟩ : ByteArray),3,0⟩ : S26),(⟨(⟨#[108,101,110,100]⟩ : ByteArray),6,0⟩ : S26),(⟨(⟨#[108,101,110,100,119]⟩ : ByteArray),6,0⟩ : S26),(⟨(⟨#[102,105,101,108,100]⟩ : ByteArray),3,3⟩ : S26),(⟨(⟨#[114,101,97,100]⟩ : ByteArray),0,0⟩ : S26),(⟨(⟨#[112,101,101,107]⟩ : ByteArray),0,0⟩ : S26),(⟨(⟨#[119,114,105,116,101]⟩ : ByteArray),0,0⟩ : S26),(⟨(⟨#[102,114,101,101,122,101]⟩ : ByteArray),0,0⟩ : S26),(⟨(⟨#[107,101,101,112]⟩ : ByteArray),3,0⟩ : S26),(⟨(⟨#[116,97,107,101]⟩ : ByteArray),3,0⟩ : S26),(⟨(⟨#[104,97,115]⟩ : ByteArray),3,0⟩ : S26),(⟨(⟨#[115,101,101]⟩ : ByteArray),3,0⟩ : S26),(⟨(⟨#[115,101,101,119]⟩ : ByteArray),3,0⟩ : S26),(⟨(⟨#[106,117,109,112]⟩ : ByteArray),40,0⟩ : S26),(⟨(⟨#[122,101,114,111]⟩ : ByteArray),40,0⟩ : S26),(⟨(⟨#[99,97,108,108]⟩ : ByteArray),3,4⟩ : S26),(⟨(⟨#[114,101,116]⟩ : ByteArray),0,0⟩ : S26),(⟨(⟨#[102,97,105,108]⟩ : ByteArray),0,0⟩ : S26)] : List (S26))):=⟨_,rfl⟩
 replace H : (some y170) = some r:=by first | (rw [hy170];with_reducible exact H) | (have H2_:=(Option.bind_some _ _).symm.trans H;rw [hy170];with_reducible exact H2_) | (have H2_:=(Option.bind_some _ _).symm.trans H;with_reducible exact H2_) | with_reducible exact H | (rw [hy170];exact H) | exact H
 have Ny170:=Aside0.mk hy170
 clear hy170
 obtain rfl:=Option.some.inj H
 go_enter Tryd.func36,Tryd.ntmps36
 go_wp2_with (first | ((with_reducible refine gate_dst (N:=38) rfl ?_);refine Kd.R_lit k26 _ 26 ?hg (N:=38) ?hd (xs:=([(⟨(⟨#[110,117,109]⟩ : ByteArray),1000001,0⟩ : S26),(⟨(⟨#[116,114,117,101]⟩ : ByteArray),0,0⟩ : S26),(⟨(⟨#[102,97,108,115,101]⟩ : ByteArray),0,0⟩ : S26),(⟨(⟨#[109,101]⟩ : ByteArray),0,0⟩ : S26),(⟨(⟨#[97,100,100]⟩ : ByteArray),0,0⟩ : S26),(⟨(⟨#[115,117,98]⟩ : ByteArray),0,0⟩ : S26),(⟨(⟨#[109,117,108]⟩ : ByteArray),0,0⟩ : S26),(⟨(⟨#[100,105,118]⟩ : ByteArray),0,0⟩ : S26),(⟨(⟨#[109,111,100]⟩ : ByteArray),0,0⟩ : S26),(⟨(⟨#[108,101,115,115]⟩ : ByteArray),0,0⟩ : S26),(⟨(⟨#[115,97,109,101]⟩ : ByteArray),0,0⟩ : S26),(⟨(⟨#[97,110,100]⟩ : ByteArray),0,0⟩ : S26),(⟨(⟨#[111,114]⟩ : ByteArray),0,0⟩ : S26),(⟨(⟨#[110,111,116]⟩ : ByteArray),0,0⟩ : S26),(⟨(⟨#[99,111,112,121]⟩ : ByteArray),6,0⟩ : S26),(⟨(⟨#[109,111,118,101]⟩ : ByteArray),6,0⟩ : S26),(⟨(⟨#[112,117,116]⟩ : ByteArray),6,0⟩ : S26),(⟨(⟨#[100,114,111,112]⟩ : ByteArray),0,0⟩ : S26),(⟨(⟨#[112,97,99,107]⟩ : ByteArray),3,0⟩ : S26),(⟨(⟨#[117,110,112,97,99,107]⟩ : ByteArray),3,0⟩ : S26),(⟨(⟨#[108,101,110,100]⟩ : ByteArray),6,0⟩ : S26),(⟨(⟨#[108,101,110,100,119]⟩ : ByteArray),6,0⟩ : S26),(⟨(⟨#[102,105,101,108,100]⟩ : ByteArray),3,3⟩ : S26),(⟨(⟨#[114,101,97,100]⟩ : ByteArray),0,0⟩ : S26),(⟨(⟨#[112,101,101,107]⟩ : ByteArray),0,0⟩ : S26),(⟨(⟨#[119,114,105,116,101]⟩ : ByteArray),0,0⟩ : S26),(⟨(⟨#[102,114,101,101,122,101]⟩ : ByteArray),0,0⟩ : S26),(⟨(⟨#[107,101,101,112]⟩ : ByteArray),3,0⟩ : S26),(⟨(⟨#[116,97,107,101]⟩ : ByteArray),3,0⟩ : S26),(⟨(⟨#[104,97,115]⟩ : ByteArray),3,0⟩ : S26),(⟨(⟨#[115,101,101]⟩ : ByteArray),3,0⟩ : S26),(⟨(⟨#[115,101,101,119]⟩ : ByteArray),3,0⟩ : S26),(⟨(⟨#[106,117,109,112]⟩ : ByteArray),40,0⟩ : S26),(⟨(⟨#[122,101,114,111]⟩ : ByteArray),40,0⟩ : S26),(⟨(⟨#[99,97,108,108]⟩ : ByteArray),3,4⟩ : S26),(⟨(⟨#[114,101,116]⟩ : ByteArray),0,0⟩ : S26),(⟨(⟨#[102,97,105,108]⟩ : ByteArray),0,0⟩ : S26)] : List (S26))) (inner:=[.string (⟨#[110,117,109]⟩ : ByteArray),.int .i64 1000001,.int .i64 0,.string (⟨#[116,114,117,101]⟩ : ByteArray),.int .i64 0,.int .i64 0,.string (⟨#[102,97,108,115,101]⟩ : ByteArray),.int .i64 0,.int .i64 0,.string (⟨#[109,101]⟩ : ByteArray),.int .i64 0,.int .i64 0,.string (⟨#[97,100,100]⟩ : ByteArray),.int .i64 0,.int .i64 0,.string (⟨#[115,117,98]⟩ : ByteArray),.int .i64 0,.int .i64 0,.string (⟨#[109,117,108]⟩ : ByteArray),.int .i64 0,.int .i64 0,.string (⟨#[100,105,118]⟩ : ByteArray),.int .i64 0,.int .i64 0,.string (⟨#[109,111,100]⟩ : ByteArray),.int .i64 0,.int .i64 0,.string (⟨#[108,101,115,115]⟩ : ByteArray),.int .i64 0,.int .i64 0,.string (⟨#[115,97,109,101]⟩ : ByteArray),.int .i64 0,.int .i64 0,.string (⟨#[97,110,100]⟩ : ByteArray),.int .i64 0,.int .i64 0,.string (⟨#[111,114]⟩ : ByteArray),.int .i64 0,.int .i64 0,.string (⟨#[110,111,116]⟩ : ByteArray),.int .i64 0,.int .i64 0,.string (⟨#[99,111,112,121]⟩ : ByteArray),.int .i64 6,.int .i64 0,.string (⟨#[109,111,118,101]⟩ : ByteArray),.int .i64 6,.int .i64 0,.string (⟨#[112,117,116]⟩ : ByteArray),.int .i64 6,.int .i64 0,.string (⟨#[100,114,111,112]⟩ : ByteArray),.int .i64 0,.int .i64 0,.string (⟨#[112,97,99,107]⟩ : ByteArray),.int .i64 3,.int .i64 0,.string (⟨#[117,110,112,97,99,107]⟩ : ByteArray),.int .i64 3,.int .i64 0,.string (⟨#[108,101,110,100]⟩ : ByteArray),.int .i64 6,.int .i64 0,.string (⟨#[108,101,110,100,119]⟩ : ByteArray),.int .i64 6,.int .i64 0,.string (⟨#[102,105,101,108,100]⟩ : ByteArray),.int .i64 3,.int .i64 3,.string (⟨#[114,101,97,100]⟩ : ByteArray),.int .i64 0,.int .i64 0,.string (⟨#[112,101,101,107]⟩ : ByteArray),.int .i64 0,.int .i64 0,.string (⟨#[119,114,105,116,101]⟩ : ByteArray),.int .i64 0,.int .i64 0,.string (⟨#[102,114,101,101,122,101]⟩ : ByteArray),.int .i64 0,.int .i64 0,.string (⟨#[107,101,101,112]⟩ : ByteArray),.int .i64 3,.int .i64 0,.string (⟨#[116,97,107,101]⟩ : ByteArray),.int .i64 3,.int .i64 0,.string (⟨#[104,97,115]⟩ : ByteArray),.int .i64 3,.int .i64 0,.string (⟨#[115,101,101]⟩ : ByteArray),.int .i64 3,.int .i64 0,.string (⟨#[115,101,101,119]⟩ : ByteArray),.int .i64 3,.int .i64 0,.string (⟨#[106,117,109,112]⟩ : ByteArray),.int .i64 40,.int .i64 0,.string (⟨#[122,101,114,111]⟩ : ByteArray),.int .i64 40,.int .i64 0,.string (⟨#[99,97,108,108]⟩ : ByteArray),.int .i64 3,.int .i64 4,.string (⟨#[114,101,116]⟩ : ByteArray),.int .i64 0,.int .i64 0,.string (⟨#[102,97,105,108]⟩ : ByteArray),.int .i64 0,.int .i64 0]) (ok:=fun _ => True) (okp:=fun _ => True) ?hr ?hp (fun _ hk => hk) trivial (Below.refl _ _) (Nat.le_refl _) (by simp) ?_;(case hd => rfl);(case hg => rfl);(case hr => first | (go_simp;done) | (go_simp;rfl));(case hp => exact (Reps.c3 (show Kd.M k26 _ _ _ (⟨(⟨#[110,117,109]⟩ : ByteArray),1000001,0⟩ : S26) [.string (⟨#[110,117,109]⟩ : ByteArray),.int .i64 1000001,.int .i64 0] from (k26_mkM _ _ _ (⟨(⟨#[110,117,109]⟩ : ByteArray),1000001,0⟩ : S26) )) (Reps.c3 (show Kd.M k26 _ _ _ (⟨(⟨#[116,114,117,101]⟩ : ByteArray),0,0⟩ : S26) [.string (⟨#[116,114,117,101]⟩ : ByteArray),.int .i64 0,.int .i64 0] from (k26_mkM _ _ _ (⟨(⟨#[116,114,117,101]⟩ : ByteArray),0,0⟩ : S26) )) (Reps.c3 (show Kd.M k26 _ _ _ (⟨(⟨#[102,97,108,115,101]⟩ : ByteArray),0,0⟩ : S26) [.string (⟨#[102,97,108,115,101]⟩ : ByteArray),.int .i64 0,.int .i64 0] from (k26_mkM _ _ _ (⟨(⟨#[102,97,108,115,101]⟩ : ByteArray),0,0⟩ : S26) )) (Reps.c3 (show Kd.M k26 _ _ _ (⟨(⟨#[109,101]⟩ : ByteArray),0,0⟩ : S26) [.string (⟨#[109,101]⟩ : ByteArray),.int .i64 0,.int .i64 0] from (k26_mkM _ _ _ (⟨(⟨#[109,101]⟩ : ByteArray),0,0⟩ : S26) )) (Reps.c3 (show Kd.M k26 _ _ _ (⟨(⟨#[97,100,100]⟩ : ByteArray),0,0⟩ : S26) [.string (⟨#[97,100,100]⟩ : ByteArray),.int .i64 0,.int .i64 0] from (k26_mkM _ _ _ (⟨(⟨#[97,100,100]⟩ : ByteArray),0,0⟩ : S26) )) (Reps.c3 (show Kd.M k26 _ _ _ (⟨(⟨#[115,117,98]⟩ : ByteArray),0,0⟩ : S26) [.string (⟨#[115,117,98]⟩ : ByteArray),.int .i64 0,.int .i64 0] from (k26_mkM _ _ _ (⟨(⟨#[115,117,98]⟩ : ByteArray),0,0⟩ : S26) )) (Reps.c3 (show Kd.M k26 _ _ _ (⟨(⟨#[109,117,108]⟩ : ByteArray),0,0⟩ : S26) [.string (⟨#[109,117,108]⟩ : ByteArray),.int .i64 0,.int .i64 0] from (k26_mkM _ _ _ (⟨(⟨#[109,117,108]⟩ : ByteArray),0,0⟩ : S26) )) (Reps.c3 (show Kd.M k26 _ _ _ (⟨(⟨#[100,105,118]⟩ : ByteArray),0,0⟩ : S26) [.string (⟨#[100,105,118]⟩ : ByteArray),.int .i64 0,.int .i64 0] from (k26_mkM _ _ _ (⟨(⟨#[100,105,118]⟩ : ByteArray),0,0⟩ : S26) )) (Reps.c3 (show Kd.M k26 _ _ _ (⟨(⟨#[109,111,100]⟩ : ByteArray),0,0⟩ : S26) [.string (⟨#[109,111,100]⟩ : ByteArray),.int .i64 0,.int .i64 0] from (k26_mkM _ _ _ (⟨(⟨#[109,111,100]⟩ : ByteArray),0,0⟩ : S26) )) (Reps.c3 (show Kd.M k26 _ _ _ (⟨(⟨#[108,101,115,115]⟩ : ByteArray),0,0⟩ : S26) [.string (⟨#[108,101,115,115]⟩ : ByteArray),.int .i64 0,.int .i64 0] from (k26_mkM _ _ _ (⟨(⟨#[108,101,115,115]⟩ : ByteArray),0,0⟩ : S26) )) (Reps.c3 (show Kd.M k26 _ _ _ (⟨(⟨#[115,97,109,101]⟩ : ByteArray),0,0⟩ : S26) [.string (⟨#[115,97,109,101]⟩ : ByteArray),.int .i64 0,.int .i64 0] from (k26_mkM _ _ _ (⟨(⟨#[115,97,109,101]⟩ : ByteArray),0,0⟩ : S26) )) (Reps.c3 (show Kd.M k26 _ _ _ (⟨(⟨#[97,110,100]⟩ : ByteArray),0,0⟩ : S26) [.string (⟨#[97,110,100]⟩ : ByteArray),.int .i64 0,.int .i64 0] from (k26_mkM _ _ _ (⟨(⟨#[97,110,100]⟩ : ByteArray),0,0⟩ : S26) )) (Reps.c3 (show Kd.M k26 _ _ _ (⟨(⟨#[111,114]⟩ : ByteArray),0,0⟩ : S26) [.string (⟨#[111,114]⟩ : ByteArray),.int .i64 0,.int .i64 0] from (k26_mkM _ _ _ (⟨(⟨#[111,114]⟩ : ByteArray),0,0⟩ : S26) )) (Reps.c3 (show Kd.M k26 _ _ _ (⟨(⟨#[110,111,116]⟩ : ByteArray),0,0⟩ : S26) [.string (⟨#[110,111,116]⟩ : ByteArray),.int .i64 0,.int .i64 0] from (k26_mkM _ _ _ (⟨(⟨#[110,111,116]⟩ : ByteArray),0,0⟩ : S26) )) (Reps.c3 (show Kd.M k26 _ _ _ (⟨(⟨#[99,111,112,121]⟩ : ByteArray),6,0⟩ : S26) [.string (⟨#[99,111,112,121]⟩ : ByteArray),.int .i64 6,.int .i64 0] from (k26_mkM _ _ _ (⟨(⟨#[99,111,112,121]⟩ : ByteArray),6,0⟩ : S26) )) (Reps.c3 (show Kd.M k26 _ _ _ (⟨(⟨#[109,111,118,101]⟩ : ByteArray),6,0⟩ : S26) [.string (⟨#[109,111,118,101]⟩ : ByteArray),.int .i64 6,.int .i64 0] from (k26_mkM _ _ _ (⟨(⟨#[109,111,118,101]⟩ : ByteArray),6,0⟩ : S26) )) (Reps.c3 (show Kd.M k26 _ _ _ (⟨(⟨#[112,117,116]⟩ : ByteArray),6,0⟩ : S26) [.string (⟨#[112,117,116]⟩ : ByteArray),.int .i64 6,.int .i64 0] from (k26_mkM _ _ _ (⟨(⟨#[112,117,116]⟩ : ByteArray),6,0⟩ : S26) )) (Reps.c3 (show Kd.M k26 _ _ _ (⟨(⟨#[100,114,111,112]⟩ : ByteArray),0,0⟩ : S26) [.string (⟨#[100,114,111,112]⟩ : ByteArray),.int .i64 0,.int .i64 0] from (k26_mkM _ _ _ (⟨(⟨#[100,114,111,112]⟩ : ByteArray),0,0⟩ : S26) )) (Reps.c3 (show Kd.M k26 _ _ _ (⟨(⟨#[112,97,99,107]⟩ : ByteArray),3,0⟩ : S26) [.string (⟨#[112,97,99,107]⟩ : ByteArray),.int .i64 3,.int .i64 0] from (k26_mkM _ _ _ (⟨(⟨#[112,97,99,107]⟩ : ByteArray),3,0⟩ : S26) )) (Reps.c3 (show Kd.M k26 _ _ _ (⟨(⟨#[117,110,112,97,99,107]⟩ : ByteArray),3,0⟩ : S26) [.string (⟨#[117,110,112,97,99,107]⟩ : ByteArray),.int .i64 3,.int .i64 0] from (k26_mkM _ _ _ (⟨(⟨#[117,110,112,97,99,107]⟩ : ByteArray),3,0⟩ : S26) )) (Reps.c3 (show Kd.M k26 _ _ _ (⟨(⟨#[108,101,110,100]⟩ : ByteArray),6,0⟩ : S26) [.string (⟨#[108,101,110,100]⟩ : ByteArray),.int .i64 6,.int .i64 0] from (k26_mkM _ _ _ (⟨(⟨#[108,101,110,100]⟩ : ByteArray),6,0⟩ : S26) )) (Reps.c3 (show Kd.M k26 _ _ _ (⟨(⟨#[108,101,110,100,119]⟩ : ByteArray),6,0⟩ : S26) [.string (⟨#[108,101,110,100,119]⟩ : ByteArray),.int .i64 6,.int .i64 0] from (k26_mkM _ _ _ (⟨(⟨#[108,101,110,100,119]⟩ : ByteArray),6,0⟩ : S26) )) (Reps.c3 (show Kd.M k26 _ _ _ (⟨(⟨#[102,105,101,108,100]⟩ : ByteArray),3,3⟩ : S26) [.string (⟨#[102,105,101,108,100]⟩ : ByteArray),.int .i64 3,.int .i64 3] from (k26_mkM _ _ _ (⟨(⟨#[102,105,101,108,100]⟩ : ByteArray),3,3⟩ : S26) )) (Reps.c3 (show Kd.M k26 _ _ _ (⟨(⟨#[114,101,97,100]⟩ : ByteArray),0,0⟩ : S26) [.string (⟨#[114,101,97,100]⟩ : ByteArray),.int .i64 0,.int .i64 0] from (k26_mkM _ _ _ (⟨(⟨#[114,101,97,100]⟩ : ByteArray),0,0⟩ : S26) )) (Reps.c3 (show Kd.M k26 _ _ _ (⟨(⟨#[112,101,101,107]⟩ : ByteArray),0,0⟩ : S26) [.string (⟨#[112,101,101,107]⟩ : ByteArray),.int .i64 0,.int .i64 0] from (k26_mkM _ _ _ (⟨(⟨#[112,101,101,107]⟩ : ByteArray),0,0⟩ : S26) )) (Reps.c3 (show Kd.M k26 _ _ _ (⟨(⟨#[119,114,105,116,101]⟩ : ByteArray),0,0⟩ : S26) [.string (⟨#[119,114,105,116,101]⟩ : ByteArray),.int .i64 0,.int .i64 0] from (k26_mkM _ _ _ (⟨(⟨#[119,114,105,116,101]⟩ : ByteArray),0,0⟩ : S26) )) (Reps.c3 (show Kd.M k26 _ _ _ (⟨(⟨#[102,114,101,101,122,101]⟩ : ByteArray),0,0⟩ : S26) [.string (⟨#[102,114,101,101,122,101]⟩ : ByteArray),.int .i64 0,.int .i64 0] from (k26_mkM _ _ _ (⟨(⟨#[102,114,101,101,122,101]⟩ : ByteArray),0,0⟩ : S26) )) (Reps.c3 (show Kd.M k26 _ _ _ (⟨(⟨#[107,101,101,112]⟩ : ByteArray),3,0⟩ : S26) [.string (⟨#[107,101,101,112]⟩ : ByteArray),.int .i64 3,.int .i64 0] from (k26_mkM _ _ _ (⟨(⟨#[107,101,101,112]⟩ : ByteArray),3,0⟩ : S26) )) (Reps.c3 (show Kd.M k26 _ _ _ (⟨(⟨#[116,97,107,101]⟩ : ByteArray),3,0⟩ : S26) [.string (⟨#[116,97,107,101]⟩ : ByteArray),.int .i64 3,.int .i64 0] from (k26_mkM _ _ _ (⟨(⟨#[116,97,107,101]⟩ : ByteArray),3,0⟩ : S26) )) (Reps.c3 (show Kd.M k26 _ _ _ (⟨(⟨#[104,97,115]⟩ : ByteArray),3,0⟩ : S26) [.string (⟨#[104,97,115]⟩ : ByteArray),.int .i64 3,.int .i64 0] from (k26_mkM _ _ _ (⟨(⟨#[104,97,115]⟩ : ByteArray),3,0⟩ : S26) )) (Reps.c3 (show Kd.M k26 _ _ _ (⟨(⟨#[115,101,101]⟩ : ByteArray),3,0⟩ : S26) [.string (⟨#[115,101,101]⟩ : ByteArray),.int .i64 3,.int .i64 0] from (k26_mkM _ _ _ (⟨(⟨#[115,101,101]⟩ : ByteArray),3,0⟩ : S26) )) (Reps.c3 (show Kd.M k26 _ _ _ (⟨(⟨#[115,101,101,119]⟩ : ByteArray),3,0⟩ : S26) [.string (⟨#[115,101,101,119]⟩ : ByteArray),.int .i64 3,.int .i64 0] from (k26_mkM _ _ _ (⟨(⟨#[115,101,101,119]⟩ : ByteArray),3,0⟩ : S26) )) (Reps.c3 (show Kd.M k26 _ _ _ (⟨(⟨#[106,117,109,112]⟩ : ByteArray),40,0⟩ : S26) [.string (⟨#[106,117,109,112]⟩ : ByteArray),.int .i64 40,.int .i64 0] from (k26_mkM _ _ _ (⟨(⟨#[106,117,109,112]⟩ : ByteArray),40,0⟩ : S26) )) (Reps.c3 (show Kd.M k26 _ _ _ (⟨(⟨#[122,101,114,111]⟩ : ByteArray),40,0⟩ : S26) [.string (⟨#[122,101,114,111]⟩ : ByteArray),.int .i64 40,.int .i64 0] from (k26_mkM _ _ _ (⟨(⟨#[122,101,114,111]⟩ : ByteArray),40,0⟩ : S26) )) (Reps.c3 (show Kd.M k26 _ _ _ (⟨(⟨#[99,97,108,108]⟩ : ByteArray),3,4⟩ : S26) [.string (⟨#[99,97,108,108]⟩ : ByteArray),.int .i64 3,.int .i64 4] from (k26_mkM _ _ _ (⟨(⟨#[99,97,108,108]⟩ : ByteArray),3,4⟩ : S26) )) (Reps.c3 (show Kd.M k26 _ _ _ (⟨(⟨#[114,101,116]⟩ : ByteArray),0,0⟩ : S26) [.string (⟨#[114,101,116]⟩ : ByteArray),.int .i64 0,.int .i64 0] from (k26_mkM _ _ _ (⟨(⟨#[114,101,116]⟩ : ByteArray),0,0⟩ : S26) )) (Reps.c3 (show Kd.M k26 _ _ _ (⟨(⟨#[102,97,105,108]⟩ : ByteArray),0,0⟩ : S26) [.string (⟨#[102,97,105,108]⟩ : ByteArray),.int .i64 0,.int .i64 0] from (k26_mkM _ _ _ (⟨(⟨#[102,97,105,108]⟩ : ByteArray),0,0⟩ : S26) )) (Reps.none _ _)))))))))))))))))))))))))))))))))))))));intro v171 w1 ho2 hb hg_ hnew_;clear hg_ hnew_;(first | rw [← Ny170.out] at ho2 | (simp only [Int.reduceToNat] at ho2;rw [← Ny170.out] at ho2));have n0_:=Aside0.mk (Kd.R_lower ho2 (below_size (Up.Bup HB)));have n1_:=Up.BB HB hb;clear HB;have HO172:=n0_;have HB:=n1_;clear n0_ n1_ hb ho2))
 go_ret
 exact ⟨_,by first | rfl | (simp [errW_none,errW_some] <;> rfl) | (simp [*,errW_none,errW_some] <;> rfl),Up.Rup HO172,Up.Bup HB⟩

/-! ### spec_l3Needs: function 30 -/
def spec_l3Needs.l0 : Nat → ByteArray → List (S26) → Int → Option (ByteArray × Int × Int × Bool)
 | 0,_,_,_ => none
 | k + 1,x0,x4,x5 => if x5 < (x4.length : Int) then (if 0 ≤ x5 then (if ((rd_T26 x4 x5).f0).toList = x0.toList then (some ((rd_T26 x4 x5).f0,(rd_T26 x4 x5).f1,(rd_T26 x4 x5).f2,true)) else (spec_l3Needs.l0 k x0 x4 (wrap64 (x5 + 1)))) else (none)) else (some ((⟨#[]⟩ : ByteArray),0,0,false))
def spec_l3Needs.f (k : Nat) (a0 : ByteArray) : Option (ByteArray × Int × Int × Bool):=(spec_l3Table.f).bind fun t174 => (spec_l3Needs.l0 k a0 t174 0)
theorem spec_l3Needs.mono_l : ∀ k,(∀ y0 y1 y2,LeO (spec_l3Needs.l0 k y0 y1 y2) (spec_l3Needs.l0 (k + 1) y0 y1 y2))
 | 0 => fun _ _ _ r h => by simp [spec_l3Needs.l0] at h
 | k + 1 => by
  have ih0:=spec_l3Needs.mono_l k
  ·intro y0 y1 y2
   unfold spec_l3Needs.l0
   repeat' first
   | (with_reducible exact ih0 _ _ _)
   | (with_reducible exact LeO.refl _)
   | (with_reducible exact LeO.none _)
   | (with_reducible refine LeO.ite ?_ ?_)
   | (with_reducible refine LeO.bind ?_ (fun _ => ?_))
   | exact ih0 _ _ _
   | exact LeO.none _
   | refine LeO.ite ?_ ?_
   | refine LeO.bind ?_ (fun _ => ?_)
theorem spec_l3Needs.mono : ∀ a0 k,LeO (spec_l3Needs.f k a0) (spec_l3Needs.f (k + 1) a0):=by
 intro a0 k
 have ih0:=spec_l3Needs.mono_l k
 unfold spec_l3Needs.f
 repeat' first
   | (with_reducible exact ih0 _ _ _)
   | (with_reducible exact LeO.refl _)
   | (with_reducible exact LeO.none _)
   | (with_reducible refine LeO.ite ?_ ?_)
   | (with_reducible refine LeO.bind ?_ (fun _ => ?_))
   | exact ih0 _ _ _
   | exact LeO.none _
   | refine LeO.ite ?_ ?_
   | refine LeO.bind ?_ (fun _ => ?_)
set_option maxHeartbeats 8000000 in
set_option maxRecDepth 100000 in
theorem spec_l3Needs.calls (k : Nat) (a0 : ByteArray) (r1 : ByteArray) (r2 : Int) (r3 : Int) (r4 : Bool) (w : World) (h : spec_l3Needs.f k a0 = some (r1,r2,r3,r4)) :
  Calls Tryd.prog 30 #[.string a0] w fun e w' => e = .returned (.tuple #[.agg #[.string r1,.int .i64 r2,.int .i64 r3],.bool r4]) ∧ Below w.heap.size w w':=by
 have hu26:=Tryd.underlying26
 have HB:=Aside0.mk (Below.refl w.heap.size w)
 have H : ((spec_l3Table.f).bind fun t174 => (spec_l3Needs.l0 k a0 t174 0)) = some (r1,r2,r3,r4):=h
 clear h
 replace H:=Option.bind_eq_some_iff.mp H
 obtain ⟨t174,A20,H⟩:=H
 replace H : (spec_l3Needs.l0 k a0 t174 0) = some (r1,r2,r3,r4):=H
 have A2:=Aside0.mk A20
 clear A20
 have H':=Aside0.mk H
 clear H
 go_enter Tryd.func30,Tryd.ntmps30
 go_wp2_with (first | ((with_reducible refine gate_dst (N:=2) rfl ?_);refine Up.bx 2 26 #[.string (⟨#[]⟩ : ByteArray),.int .i64 0,.int .i64 0] ?_;intro gb173 hg w3 hbox hb;have n0_:=Up.BB HB hb;have n1_:=Aside0.mk (hbox);have n2_:=Up.gw hg HB;have n3_:=Up.gw hg HB;clear HB;have HB:=n0_;have BK173:=n1_;have GW173:=n2_;have GE173:=n3_;clear n0_ n1_ n2_ n3_ hb hbox hg) | ((with_reducible refine gate_callee (f:=36) rfl ?_);refine Up.gl (some 6) Tryd.func36 #[] ?_;(with_reducible refine (spec_l3Table.calls  t174 _ A2.out).mono ?_);rintro e w4 ⟨v175,rfl,ho0,hb⟩;refine ⟨_,rfl,?_⟩;have n0_:=Aside0.mk (Kd.R_lower (Kd.R_newB ho0 (g:=gb173) (o:=.cells #[.string (⟨#[]⟩ : ByteArray),.int .i64 0,.int .i64 0] 26 (0,0)) (Up.Kup BK173)) (below_size (Up.Bx HB)));have n1_:=Up.KB BK173 hb;have n2_:=Aside0.mk (below_step (Up.Bx HB) hb);clear BK173 HB;have HO176:=n0_;have BK173:=n1_;have HB:=n2_;clear n0_ n1_ n2_;(try clear hb);(try clear hb2);(try clear hk);(try clear hi);(try clear ho0)))
 go_loopg [5] k (fun kq v5 w' => ∃ (x5_1 : Int) (x174000_1 : ByteArray) (x174001_1 : Int) (x174002_1 : Int),v5 = .int .i64 x5_1 ∧ Aside0 (spec_l3Needs.l0 kq a0 t174 x5_1 = some (r1,r2,r3,r4)) ∧ Aside0 (kq ≤ k) ∧ Aside0 (Kd.R k26 26 w' w.heap.size (fun k_ => k_ ≠ gb173) v175 t174) ∧ Aside0 (w'.heap[gb173]? = some (.cells #[.string x174000_1,.int .i64 x174001_1,.int .i64 x174002_1] 26 (0,0))) ∧ Aside0 (Below w.heap.size w w'))
 case atStart => exact ⟨(0),((⟨#[]⟩ : ByteArray)),(0),(0),(by first | rfl | (simp;done) | (simp [*];done)),H',⟨Nat.le_refl _⟩,⟨by (with_reducible repeat (first | apply Kd.R_alloc | apply Kd.R_drewN | apply Kd.R_drew));exact Kd.R_mono HO176.out (fun _ hk => hk.2)⟩,⟨by (with_reducible repeat (first | refine blk_drewN ?_ _ | refine blk_drew ?_ | refine blk_alloc ?_ _));exact BK173.out⟩,⟨Up.Bx HB⟩⟩
 case round =>
  clear H'
  try clear p2
  try clear c3
  obtain ⟨x5_1,x174000_1,x174001_1,x174002_1,rfl,HA,HK1,HO_4,BK173,HB⟩:=hrel
  cases gk with
  | zero => exact absurd HA.out (by simp [spec_l3Needs.l0])
  | succ k1 =>
   have H:=HA.out
   clear HA
   simp only [spec_l3Needs.l0] at H
   by_cases c5 : x5_1 < (t174.length : Int)
   ·rw [if_pos c5] at H
    have c5b0 : decide (x5_1 < (t174.length : Int)) = true:=decide_eq_true c5
    clear c5
    by_cases c6 : 0 ≤ x5_1
    ·rw [if_pos c6] at H
     have c6b0 : decide (0 ≤ x5_1) = true:=decide_eq_true c6
     clear c6
     by_cases c7 : ((rd_T26 t174 x5_1).f0).toList = a0.toList
     ·rw [if_pos c7] at H
      have c7b0 : (((rd_T26 t174 x5_1).f0).toList == a0.toList) = true:=beq_iff_eq.mpr c7
      have c7b1 : (((rd_T26 t174 x5_1).f0).toList != a0.toList) = false:=bne_eq_false_iff_eq.mpr c7
      clear c7
      simp only [Option.some.injEq,Prod.mk.injEq] at H
      obtain ⟨rfl,rfl,rfl,rfl⟩:=H
      obtain ⟨Ao8,co8,eo8⟩:=Kd.R_slice HO_4.out
      subst eo8
      have p177 : 0 ≤ (x5_1 : Int):=Up.od
      have q177 : x5_1 < (t174.length : Int):=Up.od
      obtain ⟨ad177,e177,hx177_0,hx177_1,hx177_2⟩:=at_T26 (Kd.R_reads' HO_4.out).2.2 x5_1 p177 q177
      cases e177
      replace p177:=eq_true p177
      replace q177:=eq_true q177
      have p178 : 0 ≤ (x5_1 : Int):=Up.od
      have q178 : x5_1 < (t174.length : Int):=Up.od
      obtain ⟨ad178,e178,hx178_0,hx178_1,hx178_2⟩:=at_T26 (Kd.R_reads' HO_4.out).2.2 x5_1 p178 q178
      obtain rfl : ad177 = ad178:=(by injection e178)
      replace p178:=eq_true p178
      replace q178:=eq_true q178
      have hcz9_0:=Up.c0 BK173
      have hcz9_1:=Up.c1 BK173
      have hcz9_2:=Up.c2 BK173
      have hfz9_0:=blk_frozen BK173.out 0
      have hfz9_1:=blk_frozen BK173.out 1
      have hfz9_2:=blk_frozen BK173.out 2
      go_wp2
      refine bodyPost_ret (results_ct rfl _ _ gb173 26 #[.string ((rd_T26 t174 x5_1).f0),.int .i64 ((rd_T26 t174 x5_1).f1),.int .i64 ((rd_T26 t174 x5_1).f2)] (0,0) _ rfl (Up.Kx BK173) Tryd.underlying26 rfl (by kernel_rfl)) rfl ?_
      exact Up.e1 (Up.Bx HB)
     ·rw [if_neg c7] at H
      have c7b0 : (((rd_T26 t174 x5_1).f0).toList == a0.toList) = false:=beq_eq_false_iff_ne.mpr c7
      have c7b1 : (((rd_T26 t174 x5_1).f0).toList != a0.toList) = true:=bne_iff_ne.mpr c7
      have H':=Aside0.mk H
      clear H
      obtain ⟨Ao10,co10,eo10⟩:=Kd.R_slice HO_4.out
      subst eo10
      have p177 : 0 ≤ (x5_1 : Int):=Up.od
      have q177 : x5_1 < (t174.length : Int):=Up.od
      obtain ⟨ad177,e177,hx177_0,hx177_1,hx177_2⟩:=at_T26 (Kd.R_reads' HO_4.out).2.2 x5_1 p177 q177
      cases e177
      replace p177:=eq_true p177
      replace q177:=eq_true q177
      go_wp2
      go_roundg k1
      case measure => have:=HK1.out;omega
      case rel => exact ⟨(wrap64 (x5_1 + 1)),(x174000_1),(x174001_1),(x174002_1),(by first | rfl | (simp;done) | (simp [*];done)),H',⟨by have:=HK1.out;omega⟩,⟨Up.Rup HO_4⟩,⟨by (with_reducible repeat (first | refine blk_drewN ?_ _ | refine blk_drew ?_ | refine blk_alloc ?_ _));exact BK173.out⟩,⟨Up.Bx HB⟩⟩
    ·rw [if_neg c6] at H
     exact absurd H (by simp)
   ·rw [if_neg c5] at H
    have c5b0 : decide (x5_1 < (t174.length : Int)) = false:=decide_eq_false c5
    clear c5
    simp only [Option.some.injEq,Prod.mk.injEq] at H
    obtain ⟨rfl,rfl,rfl,rfl⟩:=H
    obtain ⟨Ao11,co11,eo11⟩:=Kd.R_slice HO_4.out
    subst eo11
    have hcz12_0:=Up.c0 BK173
    have hcz12_1:=Up.c1 BK173
    have hcz12_2:=Up.c2 BK173
    have hfz12_0:=blk_frozen BK173.out 0
    have hfz12_1:=blk_frozen BK173.out 1
    have hfz12_2:=blk_frozen BK173.out 2
    go_wp2
    refine bodyPost_ret (results_ct rfl _ _ gb173 26 #[.string (⟨#[]⟩ : ByteArray),.int .i64 0,.int .i64 0] (0,0) _ rfl (Up.Kx BK173) Tryd.underlying26 rfl (by kernel_rfl)) rfl ?_
    exact Up.e1 (Up.Bx HB)

/-! ### spec_l6In: function 50 -/
def spec_l6In.f (a0 : Int) (a1 : Int) (a2 : Int) : Option (Bool):=if a0 ≥ a1 then (some (decide (a0 ≤ a2))) else (some false)
set_option maxHeartbeats 8000000 in
set_option maxRecDepth 100000 in
theorem spec_l6In.calls (a0 : Int) (a1 : Int) (a2 : Int) (r : Bool) (w : World) (h : spec_l6In.f a0 a1 a2 = some r) :
  Calls Tryd.prog 50 #[.int .i64 a0,.int .i64 a1,.int .i64 a2] w fun e w' => e = .returned (.bool r) ∧ Drawn0 w w':=by
 have H : (if a0 ≥ a1 then (some (decide (a0 ≤ a2))) else (some false)) = some r:=h
 clear h
 by_cases c4 : a0 ≥ a1
 ·rw [if_pos c4] at H
  have c4b0 : decide (a1 ≤ a0) = true:=decide_eq_true c4
  clear c4
  obtain rfl:=Option.some.inj H
  go_enter Tryd.func50,Tryd.ntmps50
  go_wp2
  go_ret
  exact Up.e2
 ·rw [if_neg c4] at H
  have c4b0 : decide (a1 ≤ a0) = false:=decide_eq_false c4
  clear c4
  obtain rfl:=Option.some.inj H
  go_enter Tryd.func50,Tryd.ntmps50
  go_wp2
  go_ret
  exact Up.e2

/-! ### spec_l3Fits: function 31 -/
def spec_l3Fits.f (a0 : Int) (a1 : Int) : Option (Bool):=if a1 = 0 then (some (a0 == 0)) else ((spec_l6In.f a0 0 (wrap64 (a1 - 1))).bind fun t179 => (some t179))
set_option maxHeartbeats 8000000 in
set_option maxRecDepth 100000 in
theorem spec_l3Fits.calls (a0 : Int) (a1 : Int) (r : Bool) (w : World) (h : spec_l3Fits.f a0 a1 = some r) :
  Calls Tryd.prog 31 #[.int .i64 a0,.int .i64 a1] w fun e w' => e = .returned (.bool r) ∧ Drawn0 w w':=by
 have H : (if a1 = 0 then (some (a0 == 0)) else ((spec_l6In.f a0 0 (wrap64 (a1 - 1))).bind fun t179 => (some t179))) = some r:=h
 clear h
 by_cases c3 : a1 = 0
 ·rw [if_pos c3] at H
  have c3b0 : (a1 == 0) = true:=beq_iff_eq.mpr c3
  have c3b1 : (a1 != 0) = false:=bne_eq_false_iff_eq.mpr c3
  clear c3
  obtain rfl:=Option.some.inj H
  go_enter Tryd.func31,Tryd.ntmps31
  go_wp2
  go_ret
  exact Up.e2
 ·rw [if_neg c3] at H
  have c3b0 : (a1 == 0) = false:=beq_eq_false_iff_ne.mpr c3
  have c3b1 : (a1 != 0) = true:=bne_iff_ne.mpr c3
  replace H:=Option.bind_eq_some_iff.mp H
  obtain ⟨t179,A40,H⟩:=H
  replace H : (some t179) = some r:=H
  have A4:=Aside0.mk A40
  clear A40
  obtain rfl:=Option.some.inj H
  go_enter Tryd.func31,Tryd.ntmps31
  go_wp2_with (first | ((with_reducible refine gate_callee (f:=50) rfl ?_);refine Up.gl (some 12) Tryd.func50 #[.int .i64 a0,.int .i64 0,.int .i64 (wrap64 (a1 - 1))] ?_;(with_reducible refine (spec_l6In.calls a0 0 (wrap64 (a1 - 1)) t179 _ A4.out).mono ?_);rintro e w' ⟨rfl,⟨nd,rfl⟩⟩;refine ⟨_,rfl,?_⟩))
  go_ret
  exact Up.e2

/-! ### spec_InsOk: function 12 -/
def spec_InsOk.f (k : Nat) (a0_0 : ByteArray) (a0_1 : Int) (a0_2 : Int) : Option (Bool):=(spec_l3Needs.f k a0_0).bind fun bt181 => (if bt181.2.2.2 = true then ((spec_l3Fits.f a0_1 bt181.2.1).bind fun t186 => (if t186 = true then ((spec_l3Fits.f a0_2 bt181.2.2.1).bind fun t187 => (some t187)) else (some false))) else (some false))
theorem spec_InsOk.mono : ∀ a0 a1 a2 k,LeO (spec_InsOk.f k a0 a1 a2) (spec_InsOk.f (k + 1) a0 a1 a2):=by
 intro a0 a1 a2 k
 unfold spec_InsOk.f
 repeat' first
   | (with_reducible exact spec_l3Needs.mono _ _)
   | (with_reducible exact LeO.refl _)
   | (with_reducible exact LeO.none _)
   | (with_reducible refine LeO.ite ?_ ?_)
   | (with_reducible refine LeO.bind ?_ (fun _ => ?_))
   | exact spec_l3Needs.mono _ _
   | exact LeO.none _
   | refine LeO.ite ?_ ?_
   | refine LeO.bind ?_ (fun _ => ?_)
set_option maxHeartbeats 8000000 in
set_option maxRecDepth 100000 in
theorem spec_InsOk.calls (k : Nat) (a0_0 : ByteArray) (a0_1 : Int) (a0_2 : Int) (r : Bool) (w : World) (h : spec_InsOk.f k a0_0 a0_1 a0_2 = some r) :
  Calls Tryd.prog 12 #[.agg #[.string a0_0,.int .i64 a0_1,.int .i64 a0_2]] w fun e w' => e = .returned (.bool r) ∧ Below w.heap.size w w':=by
 have hu26:=Tryd.underlying26
 have HB:=Aside0.mk (Below.refl w.heap.size w)
 have H : ((spec_l3Needs.f k a0_0).bind fun bt181 => (if bt181.2.2.2 = true then ((spec_l3Fits.f a0_1 bt181.2.1).bind fun t186 => (if t186 = true then ((spec_l3Fits.f a0_2 bt181.2.2.1).bind fun t187 => (some t187)) else (some false))) else (some false))) = some r:=h
 clear h
 replace H:=Option.bind_eq_some_iff.mp H
 obtain ⟨⟨t181,t182,t183,t184⟩,A20,H⟩:=H
 replace H : (if t184 = true then ((spec_l3Fits.f a0_1 t182).bind fun t186 => (if t186 = true then ((spec_l3Fits.f a0_2 t183).bind fun t187 => (some t187)) else (some false))) else (some false)) = some r:=H
 have A2:=Aside0.mk A20
 clear A20
 by_cases c3 : t184 = true
 ·subst c3
  have H1 : ((spec_l3Fits.f a0_1 t182).bind fun t186 => (if t186 = true then ((spec_l3Fits.f a0_2 t183).bind fun t187 => (some t187)) else (some false))) = some r:=by rw [if_pos rfl] at H;exact H
  clear H
  have H:=H1
  clear H1
  replace H:=Option.bind_eq_some_iff.mp H
  obtain ⟨t186,A40,H⟩:=H
  replace H : (if t186 = true then ((spec_l3Fits.f a0_2 t183).bind fun t187 => (some t187)) else (some false)) = some r:=H
  have A4:=Aside0.mk A40
  clear A40
  by_cases c5 : t186 = true
  ·subst c5
   have H1 : ((spec_l3Fits.f a0_2 t183).bind fun t187 => (some t187)) = some r:=by rw [if_pos rfl] at H;exact H
   clear H
   have H:=H1
   clear H1
   replace H:=Option.bind_eq_some_iff.mp H
   obtain ⟨t187,A60,H⟩:=H
   replace H : (some t187) = some r:=H
   have A6:=Aside0.mk A60
   clear A60
   obtain rfl:=Option.some.inj H
   go_enter Tryd.func12,Tryd.ntmps12
   go_wp2_with (first | ((with_reducible refine gate_dst (N:=1) rfl ?_);refine Up.bx 1 26 #[.string a0_0,.int .i64 a0_1,.int .i64 a0_2] ?_;intro gb180 hg w7 hbox hb;have n0_:=Up.BB HB hb;have n1_:=Aside0.mk (hbox);have n2_:=Up.gw hg HB;have n3_:=Up.gw hg HB;clear HB;have HB:=n0_;have BK180:=n1_;have GW180:=n2_;have GE180:=n3_;clear n0_ n1_ n2_ n3_ hb hbox hg;have hcz8_0:=Up.c0 BK180;have hcz8_1:=Up.c1 BK180;have hcz8_2:=Up.c2 BK180;have hfz8_0:=blk_frozen BK180.out 0;have hfz8_1:=blk_frozen BK180.out 1;have hfz8_2:=blk_frozen BK180.out 2) | ((with_reducible refine gate_callee (f:=30) rfl ?_);refine Up.gl (some 8) Tryd.func30 #[.string a0_0] ?_;(with_reducible refine (spec_l3Needs.calls k a0_0 t181 t182 t183 true _ A2.out).mono ?_);rintro e w9 ⟨rfl,hb⟩;refine ⟨_,rfl,?_⟩;have n0_:=Up.KB BK180 hb;have n1_:=Aside0.mk (below_step (Up.Bx HB) hb);clear BK180 HB;have BK180:=n0_;have HB:=n1_;clear n0_ n1_;(try clear hb);(try clear hb2);(try clear hk);(try clear hi)) | ((with_reducible refine gate_dst (N:=3) rfl ?_);refine Up.bx 3 26 #[.string (⟨#[]⟩ : ByteArray),.int .i64 0,.int .i64 0] ?_;intro gb185 hg w10 hbox hb;have n0_:=Up.KB BK180 hb;have n1_:=Aside0.mk (below_step (Up.Bx HB) hb);have n2_:=Aside0.mk (hbox);have n3_:=Up.gw hg HB;have n4_:=Up.gw hg HB;have n5_:=Up.nl hg BK180;have n6_:=Up.ng hg BK180;clear BK180 HB;have BK180:=n0_;have HB:=n1_;have BK185:=n2_;have GW185:=n3_;have GE185:=n4_;have NB180_185:=n5_;have NB185_180:=n6_;clear n0_ n1_ n2_ n3_ n4_ n5_ n6_ hb hbox hg;have hnb11:=NB185_180.out;have hnc11:=NB180_185.out;have hcz12_0:=Up.c0 BK185;have hcz12_1:=Up.c1 BK185;have hcz12_2:=Up.c2 BK185;have hfz12_0:=blk_frozen BK185.out 0;have hfz12_1:=blk_frozen BK185.out 1;have hfz12_2:=blk_frozen BK185.out 2;have hcz13_0:=Up.c0 BK180;have hcz13_1:=Up.c1 BK180;have hcz13_2:=Up.c2 BK180;have hfz13_0:=blk_frozen BK180.out 0;have hfz13_1:=blk_frozen BK180.out 1;have hfz13_2:=blk_frozen BK180.out 2) | (go_at_call 31;(with_reducible refine (spec_l3Fits.calls a0_1 t182 true _ A4.out).mono ?_);rintro e w' ⟨rfl,⟨nd,rfl⟩⟩) | (go_at_call 31;(with_reducible refine (spec_l3Fits.calls a0_2 t183 t187 _ A6.out).mono ?_);rintro e w' ⟨rfl,⟨nd,rfl⟩⟩))
   go_ret
   exact Up.e1 (Up.Bx HB)
  ·replace c5:=Bool.eq_false_iff.mpr c5
   subst c5
   have H1 : (some false) = some r:=by rw [if_neg (show ¬ (false = true) by decide)] at H;exact H
   clear H
   have H:=H1
   clear H1
   obtain rfl:=Option.some.inj H
   go_enter Tryd.func12,Tryd.ntmps12
   go_wp2_with (first | ((with_reducible refine gate_dst (N:=1) rfl ?_);refine Up.bx 1 26 #[.string a0_0,.int .i64 a0_1,.int .i64 a0_2] ?_;intro gb180 hg w14 hbox hb;have n0_:=Up.BB HB hb;have n1_:=Aside0.mk (hbox);have n2_:=Up.gw hg HB;have n3_:=Up.gw hg HB;clear HB;have HB:=n0_;have BK180:=n1_;have GW180:=n2_;have GE180:=n3_;clear n0_ n1_ n2_ n3_ hb hbox hg;have hcz15_0:=Up.c0 BK180;have hcz15_1:=Up.c1 BK180;have hcz15_2:=Up.c2 BK180;have hfz15_0:=blk_frozen BK180.out 0;have hfz15_1:=blk_frozen BK180.out 1;have hfz15_2:=blk_frozen BK180.out 2) | ((with_reducible refine gate_callee (f:=30) rfl ?_);refine Up.gl (some 8) Tryd.func30 #[.string a0_0] ?_;(with_reducible refine (spec_l3Needs.calls k a0_0 t181 t182 t183 true _ A2.out).mono ?_);rintro e w16 ⟨rfl,hb⟩;refine ⟨_,rfl,?_⟩;have n0_:=Up.KB BK180 hb;have n1_:=Aside0.mk (below_step (Up.Bx HB) hb);clear BK180 HB;have BK180:=n0_;have HB:=n1_;clear n0_ n1_;(try clear hb);(try clear hb2);(try clear hk);(try clear hi)) | ((with_reducible refine gate_dst (N:=3) rfl ?_);refine Up.bx 3 26 #[.string (⟨#[]⟩ : ByteArray),.int .i64 0,.int .i64 0] ?_;intro gb185 hg w17 hbox hb;have n0_:=Up.KB BK180 hb;have n1_:=Aside0.mk (below_step (Up.Bx HB) hb);have n2_:=Aside0.mk (hbox);have n3_:=Up.gw hg HB;have n4_:=Up.gw hg HB;have n5_:=Up.nl hg BK180;have n6_:=Up.ng hg BK180;clear BK180 HB;have BK180:=n0_;have HB:=n1_;have BK185:=n2_;have GW185:=n3_;have GE185:=n4_;have NB180_185:=n5_;have NB185_180:=n6_;clear n0_ n1_ n2_ n3_ n4_ n5_ n6_ hb hbox hg;have hnb18:=NB185_180.out;have hnc18:=NB180_185.out;have hcz19_0:=Up.c0 BK185;have hcz19_1:=Up.c1 BK185;have hcz19_2:=Up.c2 BK185;have hfz19_0:=blk_frozen BK185.out 0;have hfz19_1:=blk_frozen BK185.out 1;have hfz19_2:=blk_frozen BK185.out 2;have hcz20_0:=Up.c0 BK180;have hcz20_1:=Up.c1 BK180;have hcz20_2:=Up.c2 BK180;have hfz20_0:=blk_frozen BK180.out 0;have hfz20_1:=blk_frozen BK180.out 1;have hfz20_2:=blk_frozen BK180.out 2) | (go_at_call 31;(with_reducible refine (spec_l3Fits.calls a0_1 t182 false _ A4.out).mono ?_);rintro e w' ⟨rfl,⟨nd,rfl⟩⟩))
   go_ret
   exact Up.e1 (Up.Bx HB)
 ·replace c3:=Bool.eq_false_iff.mpr c3
  subst c3
  have H1 : (some false) = some r:=by rw [if_neg (show ¬ (false = true) by decide)] at H;exact H
  clear H
  have H:=H1
  clear H1
  obtain rfl:=Option.some.inj H
  go_enter Tryd.func12,Tryd.ntmps12
  go_wp2_with (first | ((with_reducible refine gate_dst (N:=1) rfl ?_);refine Up.bx 1 26 #[.string a0_0,.int .i64 a0_1,.int .i64 a0_2] ?_;intro gb180 hg w21 hbox hb;have n0_:=Up.BB HB hb;have n1_:=Aside0.mk (hbox);have n2_:=Up.gw hg HB;have n3_:=Up.gw hg HB;clear HB;have HB:=n0_;have BK180:=n1_;have GW180:=n2_;have GE180:=n3_;clear n0_ n1_ n2_ n3_ hb hbox hg;have hcz22_0:=Up.c0 BK180;have hcz22_1:=Up.c1 BK180;have hcz22_2:=Up.c2 BK180;have hfz22_0:=blk_frozen BK180.out 0;have hfz22_1:=blk_frozen BK180.out 1;have hfz22_2:=blk_frozen BK180.out 2) | ((with_reducible refine gate_callee (f:=30) rfl ?_);refine Up.gl (some 8) Tryd.func30 #[.string a0_0] ?_;(with_reducible refine (spec_l3Needs.calls k a0_0 t181 t182 t183 false _ A2.out).mono ?_);rintro e w23 ⟨rfl,hb⟩;refine ⟨_,rfl,?_⟩;have n0_:=Up.KB BK180 hb;have n1_:=Aside0.mk (below_step (Up.Bx HB) hb);clear BK180 HB;have BK180:=n0_;have HB:=n1_;clear n0_ n1_;(try clear hb);(try clear hb2);(try clear hk);(try clear hi)) | ((with_reducible refine gate_dst (N:=3) rfl ?_);refine Up.bx 3 26 #[.string (⟨#[]⟩ : ByteArray),.int .i64 0,.int .i64 0] ?_;intro gb185 hg w24 hbox hb;have n0_:=Up.KB BK180 hb;have n1_:=Aside0.mk (below_step (Up.Bx HB) hb);have n2_:=Aside0.mk (hbox);have n3_:=Up.gw hg HB;have n4_:=Up.gw hg HB;have n5_:=Up.nl hg BK180;have n6_:=Up.ng hg BK180;clear BK180 HB;have BK180:=n0_;have HB:=n1_;have BK185:=n2_;have GW185:=n3_;have GE185:=n4_;have NB180_185:=n5_;have NB185_180:=n6_;clear n0_ n1_ n2_ n3_ n4_ n5_ n6_ hb hbox hg;have hnb25:=NB185_180.out;have hnc25:=NB180_185.out;have hcz26_0:=Up.c0 BK185;have hcz26_1:=Up.c1 BK185;have hcz26_2:=Up.c2 BK185;have hfz26_0:=blk_frozen BK185.out 0;have hfz26_1:=blk_frozen BK185.out 1;have hfz26_2:=blk_frozen BK185.out 2))
  go_ret
  exact Up.e1 (Up.Bx HB)

/-! ### spec_l6Dec: function 38 -/
def spec_l6Dec.f : Nat → Int → Option (ByteArray)
 | 0,_ => none
 | k + 1,a0 => if a0 < (-9223372036854775807) then (some (⟨#[45,57,50,50,51,51,55,50,48,51,54,56,53,52,55,55,53,56,48,56]⟩ : ByteArray)) else (if a0 < 0 then ((spec_l6Dec.f k (wrap64 (-a0))).bind fun t188 => (if 1 + t188.size ≤ 9223372036854775807 then (some ((⟨#[45]⟩ : ByteArray) ++ t188)) else (none))) else (if a0 < 10 then (some (strOfNums (([(wrap64 (48 + a0)) % 256] : List Int)))) else ((spec_l6Dec.f k (wrap64 (Int.tdiv a0 10))).bind fun t192 => ((some (([(wrap64 (48 + (Int.tmod a0 10))) % 256] : List Int) : List Int)).bind fun y193 => (if t192.size + (strOfNums y193).size ≤ 9223372036854775807 then (some (t192 ++ (strOfNums y193))) else (none))))))
theorem spec_l6Dec.mono_l : ∀ k,(∀ y0,LeO (spec_l6Dec.f k y0) (spec_l6Dec.f (k + 1) y0))
 | 0 => fun _ r h => by simp [spec_l6Dec.f] at h
 | k + 1 => by
  have ih0:=spec_l6Dec.mono_l k
  ·intro y0
   unfold spec_l6Dec.f
   repeat' first
   | (with_reducible exact ih0 _)
   | (with_reducible exact LeO.refl _)
   | (with_reducible exact LeO.none _)
   | (with_reducible refine LeO.ite ?_ ?_)
   | (with_reducible refine LeO.bind ?_ (fun _ => ?_))
   | exact ih0 _
   | exact LeO.none _
   | refine LeO.ite ?_ ?_
   | refine LeO.bind ?_ (fun _ => ?_)
theorem spec_l6Dec.mono : ∀ a0 k,LeO (spec_l6Dec.f k a0) (spec_l6Dec.f (k + 1) a0):=by
 intro a0 k
 have ih0:=spec_l6Dec.mono_l k
 exact ih0 a0
def spec_l6Dec.T7 : Bool × List (List Nat × List Nat):=(true,[([],[]),([0],[0]),([1],[1]),([],[]),([3],[3]),([4],[4]),([5],[5]),([6],[6]),([7],[7]),([2,8],[2,8]),([9,2,0,1,2,3,4,5,6,7,8,9],[9])])
def spec_l6Dec.B7 : List Nat:=[0,1,3,0,8,24,56,120,248,511,1023]
theorem spec_l6Dec.tab7 : rtab .any (opsOf Tryd.f38 7) = spec_l6Dec.T7:=by kernel_rfl
theorem spec_l6Dec.bits7 : waitsOk spec_l6Dec.T7.2 spec_l6Dec.B7 = true:=by kernel_rfl
set_option maxHeartbeats 8000000 in
set_option maxRecDepth 100000 in
theorem spec_l6Dec.calls (k : Nat) : ∀ (a0 : Int) (r : ByteArray) (w : World) (h : spec_l6Dec.f k a0 = some r),
  Calls Tryd.prog 38 #[.int .i64 a0] w fun e w' => e = .returned (.string r) ∧ Below w.heap.size w w':=by
 induction k using Nat.strongRecOn with
 | _ k ih =>
 intro a0 r w h
 cases k with
 | zero => exact absurd h (by simp [spec_l6Dec.f])
 | succ k =>
 simp only [spec_l6Dec.f] at h
 have HB:=Aside0.mk (Below.refl w.heap.size w)
 have H : (if a0 < (-9223372036854775807) then (some (⟨#[45,57,50,50,51,51,55,50,48,51,54,56,53,52,55,55,53,56,48,56]⟩ : ByteArray)) else (if a0 < 0 then ((spec_l6Dec.f k (wrap64 (-a0))).bind fun t188 => (if 1 + t188.size ≤ 9223372036854775807 then (some ((⟨#[45]⟩ : ByteArray) ++ t188)) else (none))) else (if a0 < 10 then (some (strOfNums (([(wrap64 (48 + a0)) % 256] : List Int)))) else ((spec_l6Dec.f k (wrap64 (Int.tdiv a0 10))).bind fun t192 => ((some (([(wrap64 (48 + (Int.tmod a0 10))) % 256] : List Int) : List Int)).bind fun y193 => (if t192.size + (strOfNums y193).size ≤ 9223372036854775807 then (some (t192 ++ (strOfNums y193))) else (none))))))) = some r:=h
 clear h
 by_cases c2 : a0 < (-9223372036854775807)
 ·rw [if_pos c2] at H
  have c2b0 : decide (a0 < (-9223372036854775807)) = true:=decide_eq_true c2
  clear c2
  obtain rfl:=Option.some.inj H
  go_enter Tryd.func38,Tryd.ntmps38
  go_wp2
  go_ret
  exact Up.e1 (Up.Bup HB)
 ·rw [if_neg c2] at H
  have c2b0 : decide (a0 < (-9223372036854775807)) = false:=decide_eq_false c2
  clear c2
  by_cases c3 : a0 < 0
  ·rw [if_pos c3] at H
   have c3b0 : decide (a0 < 0) = true:=decide_eq_true c3
   clear c3
   replace H:=Option.bind_eq_some_iff.mp H
   obtain ⟨t188,A40,H⟩:=H
   replace H : (if 1 + t188.size ≤ 9223372036854775807 then (some ((⟨#[45]⟩ : ByteArray) ++ t188)) else (none)) = some r:=H
   have A4:=Aside0.mk A40
   clear A40
   by_cases c5 : 1 + t188.size ≤ 9223372036854775807
   ·rw [if_pos c5] at H
    have c5b0:=eq_true c5
    have c5b1 : decide (1 + t188.size ≤ 9223372036854775807) = true:=decide_eq_true c5
    try have c5b2 : (9223372036854775807 < 1 + t188.size) = False:=eq_false (Nat.not_lt.2 c5)
    obtain rfl:=Option.some.inj H
    go_enter Tryd.func38,Tryd.ntmps38
    go_wp2_with (first | ((with_reducible refine gate_callee (f:=38) rfl ?_);refine Up.gl (some 9) Tryd.func38 #[.int .i64 (wrap64 (-a0))] ?_;(with_reducible refine (ih k (by omega) (wrap64 (-a0)) t188 _ A4.out).mono ?_);rintro e w6 ⟨rfl,hb⟩;refine ⟨_,rfl,?_⟩;have n0_:=Up.BB HB hb;clear HB;have HB:=n0_;clear n0_;(try clear hb);(try clear hb2);(try clear hk);(try clear hi)))
    go_ret
    exact Up.e1 (Up.Bup HB)
   ·rw [if_neg c5] at H
    exact absurd H (by simp)
  ·rw [if_neg c3] at H
   have c3b0 : decide (a0 < 0) = false:=decide_eq_false c3
   clear c3
   by_cases c7 : a0 < 10
   ·rw [if_pos c7] at H
    have c7b0 : decide (a0 < 10) = true:=decide_eq_true c7
    clear c7
    obtain ⟨y189,hy189⟩ : ∃ y_ : List Int,y_ = (([(wrap64 (48 + a0)) % 256] : List Int)):=⟨_,rfl⟩
    replace H : (some (strOfNums y189)) = some r:=by first | (rw [hy189];with_reducible exact H) | (have H2_:=(Option.bind_some _ _).symm.trans H;rw [hy189];with_reducible exact H2_) | (have H2_:=(Option.bind_some _ _).symm.trans H;with_reducible exact H2_) | with_reducible exact H | (rw [hy189];exact H) | exact H
    have Ny189:=Aside0.mk hy189
    clear hy189
    obtain rfl:=Option.some.inj H
    go_enter Tryd.func38,Tryd.ntmps38
    go_wp2_with (first | ((with_reducible refine gate_dst (N:=16) rfl ?_);refine Kd.R_lit (Kd.int .u8) _ 5 ?hg (N:=16) ?hd (xs:=([(wrap64 (48 + a0)) % 256] : List Int)) (inner:=[.int .u8 ((wrap64 (48 + a0)) % 256)]) (ok:=fun _ => True) (okp:=fun _ => True) ?hr ?hp (fun _ hk => hk) trivial (Below.refl _ _) (Nat.le_refl _) (by simp) ?_;(case hd => rfl);(case hg => rfl);(case hr => first | (go_simp;done) | (go_simp;rfl));(case hp => exact (Reps.one (show Kd.M (Kd.int .u8) _ _ _ ((wrap64 (48 + a0)) % 256) [.int .u8 ((wrap64 (48 + a0)) % 256)] from rfl) (Reps.none _ _)));intro v190 w8 ho9 hb hg_ hnew_;clear hg_ hnew_;(first | rw [← Ny189.out] at ho9 | (simp only [Int.reduceToNat] at ho9;rw [← Ny189.out] at ho9));have n0_:=Aside0.mk (Kd.R_lower ho9 (below_size (Up.Bup HB)));have n1_:=Up.BB HB hb;clear HB;have HO191:=n0_;have HB:=n1_;clear n0_ n1_ hb ho9;have hcv10:=own_string (P:=Tryd.prog) Tryd.underlying29 Tryd.underlying5 Tryd.underlying9 (Kd.own_of_R HO191.out)))
    go_ret
    exact Up.e1 (Up.Bup HB)
   ·rw [if_neg c7] at H
    have c7b0 : decide (a0 < 10) = false:=decide_eq_false c7
    clear c7
    replace H:=Option.bind_eq_some_iff.mp H
    obtain ⟨t192,A110,H⟩:=H
    replace H : ((some (([(wrap64 (48 + (Int.tmod a0 10))) % 256] : List Int) : List Int)).bind fun y193 => (if t192.size + (strOfNums y193).size ≤ 9223372036854775807 then (some (t192 ++ (strOfNums y193))) else (none))) = some r:=H
    have A11:=Aside0.mk A110
    clear A110
    obtain ⟨y193,hy193⟩ : ∃ y_ : List Int,y_ = (([(wrap64 (48 + (Int.tmod a0 10))) % 256] : List Int)):=⟨_,rfl⟩
    replace H : (if t192.size + (strOfNums y193).size ≤ 9223372036854775807 then (some (t192 ++ (strOfNums y193))) else (none)) = some r:=by first | (rw [hy193];with_reducible exact H) | (have H2_:=(Option.bind_some _ _).symm.trans H;rw [hy193];with_reducible exact H2_) | (have H2_:=(Option.bind_some _ _).symm.trans H;with_reducible exact H2_) | with_reducible exact H | (rw [hy193];exact H) | exact H
    have Ny193:=Aside0.mk hy193
    clear hy193
    by_cases c12 : t192.size + (strOfNums y193).size ≤ 9223372036854775807
    ·rw [if_pos c12] at H
     have c12b0:=eq_true c12
     have c12b1 : decide (t192.size + (strOfNums y193).size ≤ 9223372036854775807) = true:=decide_eq_true c12
     try have c12b2 : (9223372036854775807 < t192.size + (strOfNums y193).size) = False:=eq_false (Nat.not_lt.2 c12)
     obtain rfl:=Option.some.inj H
     go_enter Tryd.func38,Tryd.ntmps38
     try go_wp2
     have n0_:=Aside0.mk (below_drew1 HB.out)
     clear HB
     have HB:=n0_
     clear n0_
     refine start_ (n:=11) (S:=fun w' => True) (ds:=[]) #[false,false,false,false,false,false,false,false,false,false,false] (by kernel_rfl) rfl rfl trivial (fun hHeld => ?_);refine with_tabW spec_l6Dec.tab7 spec_l6Dec.bits7 (fun HT_ HW_ => ?_)
     generalize w.drew = w13 at HB hHeld ⊢
     refine Up.pu 0 (some 18) HT_ ?_
     refine Up.pu 1 (some 19) HT_ ?_
     refine Up.pu 3 (some 21) HT_ ?_
     refine Up.pu 4 (some 22) HT_ ?_
     refine Up.pu 5 (some 23) HT_ ?_
     refine Up.pu 6 (some 24) HT_ ?_
     refine join_ (σ:=Value) 2 #[true,true,true,true,true,true,true,true,true,false,false] (fun s_ => [(20,.string t192),(25,s_),(26,.string (strOfNums y193))]) (fun s_ w' => (Kd.R (Kd.int .u8) 5 w' w.heap.size (fun _ => True) s_ y193) ∧ (Below w.heap.size w w')) ?_ ?_
     rotate_left
     ·intro hCont
      refine two_ (i:=2) (j:=7) (Ni:=some 20) (Nj:=some 25) #[true,true,true,true,true,true,true,false,false,false,false] #[true,true,false,true,true,true,true,true,false,false,false] rfl rfl rfl rfl (two_of HT_.out (by kernel_rfl)) (by decide) (by decide) (fun K hK => ?_) (fun K hK => ?_)
      ·skip
       refine Up.go Tryd.func38 #[.int .i64 (wrap64 (Int.tdiv a0 10))] ?_
       with_reducible refine (ih k (by omega) (wrap64 (Int.tdiv a0 10)) t192 _ A11.out).mono ?_
       rintro e w14 ⟨rfl,hb⟩
       refine ⟨_,rfl,?_⟩
       have n0_:=Up.BB HB hb
       clear HB
       have HB:=n0_
       clear n0_
       (try clear hb)
       (try clear hb2)
       (try clear hk)
       (try clear hi)
       refine hK.out _ _ trivial (fun hHeld => ?_)
       clear hK K
       refine Up.nm 20 ?_
       refine Up.on 7 (some 25) HT_ (fun K hK => ?_)
       refine Kd.R_lit_step (Kd.int .u8) _ 5 ?hg (N:=25) ?hd (xs:=([(wrap64 (48 + (Int.tmod a0 10))) % 256] : List Int)) (inner:=[.int .u8 ((wrap64 (48 + (Int.tmod a0 10))) % 256)]) (ok:=fun _ => True) (okp:=fun _ => True) ?hr ?hp (fun _ hk => hk) trivial (Below.refl _ _) (Nat.le_refl _) (by simp) ?_;(case hd => rfl);(case hg => rfl);(case hr => first | (go_simp;done) | (go_simp;rfl));(case hp => exact (Reps.one (show Kd.M (Kd.int .u8) _ _ _ ((wrap64 (48 + (Int.tmod a0 10))) % 256) [.int .u8 ((wrap64 (48 + (Int.tmod a0 10))) % 256)] from rfl) (Reps.none _ _)))
       intro v194 w15 ho16 hb hg_ hnew_
       clear hg_ hnew_
       (first | rw [← Ny193.out] at ho16 | (simp only [Int.reduceToNat] at ho16;rw [← Ny193.out] at ho16))
       have n0_:=Aside0.mk (Kd.R_lower ho16 (below_size (Up.Bup HB)))
       have n1_:=Up.BB HB hb
       clear HB
       have HO195:=n0_
       have HB:=n1_
       clear n0_ n1_
       clear hb ho16
       refine hK.out _ _ trivial (fun hHeld => ?_)
       clear hK K
       refine Up.nm 25 ?_
       refine Up.on 8 (some 26) HT_ (fun K hK => ?_)
       have hcv17:=own_string (P:=Tryd.prog) Tryd.underlying29 Tryd.underlying5 Tryd.underlying9 (Kd.own_of_R HO195.out)
       refine value_ (w1:=?_) (v:=?_) (by rfl) rfl ?_ ?_
       rotate_left 2
       ·go_simp
        constructor
        ·rfl
        ·rfl
       clear hcv17
       refine hK.out _ _ trivial (fun hHeld => ?_)
       clear hK K
       refine Up.nm 26 ?_
       exact norm_ (by simp only [putAll,Act.put,List.setIfInBounds_toArray,List.set_cons_zero,List.set_cons_succ]) (hCont (v194) _ ⟨(Up.Rup HO195),(Up.Bup HB)⟩)
      ·skip
       refine Kd.R_lit_step (Kd.int .u8) _ 5 ?hg (N:=25) ?hd (xs:=([(wrap64 (48 + (Int.tmod a0 10))) % 256] : List Int)) (inner:=[.int .u8 ((wrap64 (48 + (Int.tmod a0 10))) % 256)]) (ok:=fun _ => True) (okp:=fun _ => True) ?hr ?hp (fun _ hk => hk) trivial (Below.refl _ _) (Nat.le_refl _) (by simp) ?_;(case hd => rfl);(case hg => rfl);(case hr => first | (go_simp;done) | (go_simp;rfl));(case hp => exact (Reps.one (show Kd.M (Kd.int .u8) _ _ _ ((wrap64 (48 + (Int.tmod a0 10))) % 256) [.int .u8 ((wrap64 (48 + (Int.tmod a0 10))) % 256)] from rfl) (Reps.none _ _)))
       intro v194 w14 ho15 hb hg_ hnew_
       clear hg_ hnew_
       (first | rw [← Ny193.out] at ho15 | (simp only [Int.reduceToNat] at ho15;rw [← Ny193.out] at ho15))
       have n0_:=Aside0.mk (Kd.R_lower ho15 (below_size (Up.Bup HB)))
       have n1_:=Up.BB HB hb
       clear HB
       have HO195:=n0_
       have HB:=n1_
       clear n0_ n1_
       clear hb ho15
       refine hK.out _ _ trivial (fun hHeld => ?_)
       clear hK K
       refine Up.nm 25 ?_
       refine two_ (i:=2) (j:=8) (Ni:=some 20) (Nj:=some 26) #[true,true,true,true,true,true,true,true,false,false,false] #[true,true,false,true,true,true,true,true,true,false,false] rfl rfl rfl rfl (two_of HT_.out (by kernel_rfl)) (by decide) (by decide) (fun K hK => ?_) (fun K hK => ?_)
       ·skip
        refine Up.go Tryd.func38 #[.int .i64 (wrap64 (Int.tdiv a0 10))] ?_
        with_reducible refine (ih k (by omega) (wrap64 (Int.tdiv a0 10)) t192 _ A11.out).mono ?_
        rintro e w16 ⟨rfl,hb⟩
        refine ⟨_,rfl,?_⟩
        have n0_:=Up.RB HO195 hb
        have n1_:=Up.BB HB hb
        clear HO195
        clear HB
        have HO195:=n0_
        have HB:=n1_
        clear n0_ n1_
        (try clear hb)
        (try clear hb2)
        (try clear hk)
        (try clear hi)
        refine hK.out _ _ trivial (fun hHeld => ?_)
        clear hK K
        refine Up.nm 20 ?_
        refine Up.on 8 (some 26) HT_ (fun K hK => ?_)
        have hcv17:=own_string (P:=Tryd.prog) Tryd.underlying29 Tryd.underlying5 Tryd.underlying9 (Kd.own_of_R HO195.out)
        refine value_ (w1:=?_) (v:=?_) (by rfl) rfl ?_ ?_
        rotate_left 2
        ·go_simp
         constructor
         ·rfl
         ·rfl
        clear hcv17
        refine hK.out _ _ trivial (fun hHeld => ?_)
        clear hK K
        refine Up.nm 26 ?_
        exact norm_ (by simp only [putAll,Act.put,List.setIfInBounds_toArray,List.set_cons_zero,List.set_cons_succ]) (hCont (v194) _ ⟨(Up.Rup HO195),(Up.Bup HB)⟩)
       ·skip
        have hcv16:=own_string (P:=Tryd.prog) Tryd.underlying29 Tryd.underlying5 Tryd.underlying9 (Kd.own_of_R HO195.out)
        refine value_ (w1:=?_) (v:=?_) (by rfl) rfl ?_ ?_
        rotate_left 2
        ·go_simp
         constructor
         ·rfl
         ·rfl
        clear hcv16
        refine hK.out _ _ trivial (fun hHeld => ?_)
        clear hK K
        refine Up.nm 26 ?_
        refine Up.on 2 (some 20) HT_ (fun K hK => ?_)
        refine Up.go Tryd.func38 #[.int .i64 (wrap64 (Int.tdiv a0 10))] ?_
        with_reducible refine (ih k (by omega) (wrap64 (Int.tdiv a0 10)) t192 _ A11.out).mono ?_
        rintro e w17 ⟨rfl,hb⟩
        refine ⟨_,rfl,?_⟩
        have n0_:=Up.RB HO195 hb
        have n1_:=Up.BB HB hb
        clear HO195
        clear HB
        have HO195:=n0_
        have HB:=n1_
        clear n0_ n1_
        (try clear hb)
        (try clear hb2)
        (try clear hk)
        (try clear hi)
        refine hK.out _ _ trivial (fun hHeld => ?_)
        clear hK K
        refine Up.nm 20 ?_
        exact norm_ (by simp only [putAll,Act.put,List.setIfInBounds_toArray,List.set_cons_zero,List.set_cons_succ]) (hCont (v194) _ ⟨(Up.Rup HO195),(Up.Bup HB)⟩)
     rintro v194 w18 ⟨h0_,h1_⟩
     have n0_ : Aside0 (Kd.R (Kd.int .u8) 5 w18 w.heap.size (fun _ => True) v194 y193):=⟨h0_⟩
     have n1_ : Aside0 (Below w.heap.size w w18):=⟨h1_⟩
     clear HB
     clear h0_ h1_
     have HO195:=n0_
     have HB:=n1_
     clear n0_ n1_
     have hHeld:=trivial
     refine norm_ (a':=?_) ?_ ?_
     rotate_left
     ·simp only [putAll,Act.put,List.setIfInBounds_toArray,List.set_cons_zero,List.set_cons_succ]
      rfl
     refine Up.pu 9 (some 27) HT_ ?_
     refine Up.pu 10 (some 2) HT_ ?_
     refine done_ (done_of HT_.out (by kernel_rfl)) ?_
     try go_wp2
     go_ret
     exact Up.e1 (Up.Bup HB)
    ·rw [if_neg c12] at H
     exact absurd H (by simp)

/-! ### spec_InsText: function 22 -/
def spec_InsText.f (k : Nat) (a0_0 : ByteArray) (a0_1 : Int) (a0_2 : Int) : Option (ByteArray):=(spec_InsOk.f k a0_0 a0_1 a0_2).bind fun t197 => (if t197 = true then ((spec_l3Needs.f k a0_0).bind fun bt198 => (if bt198.2.1 > 0 then (if a0_0.size + 1 ≤ 9223372036854775807 then ((spec_l6Dec.f k a0_1).bind fun t203 => (if (a0_0 ++ (⟨#[32]⟩ : ByteArray)).size + t203.size ≤ 9223372036854775807 then (if bt198.2.2.1 > 0 then (if ((a0_0 ++ (⟨#[32]⟩ : ByteArray)) ++ t203).size + 1 ≤ 9223372036854775807 then ((spec_l6Dec.f k a0_2).bind fun t204 => (if (((a0_0 ++ (⟨#[32]⟩ : ByteArray)) ++ t203) ++ (⟨#[32]⟩ : ByteArray)).size + t204.size ≤ 9223372036854775807 then (some ((((a0_0 ++ (⟨#[32]⟩ : ByteArray)) ++ t203) ++ (⟨#[32]⟩ : ByteArray)) ++ t204)) else (none))) else (none)) else (some ((a0_0 ++ (⟨#[32]⟩ : ByteArray)) ++ t203))) else (none))) else (none)) else (if bt198.2.2.1 > 0 then (if a0_0.size + 1 ≤ 9223372036854775807 then ((spec_l6Dec.f k a0_2).bind fun t205 => (if (a0_0 ++ (⟨#[32]⟩ : ByteArray)).size + t205.size ≤ 9223372036854775807 then (some ((a0_0 ++ (⟨#[32]⟩ : ByteArray)) ++ t205)) else (none))) else (none)) else (some a0_0)))) else (some (⟨#[]⟩ : ByteArray)))
theorem spec_InsText.mono : ∀ a0 a1 a2 k,LeO (spec_InsText.f k a0 a1 a2) (spec_InsText.f (k + 1) a0 a1 a2):=by
 intro a0 a1 a2 k
 unfold spec_InsText.f
 repeat' first
   | (with_reducible exact spec_InsOk.mono _ _ _ _)
   | (with_reducible exact spec_l3Needs.mono _ _)
   | (with_reducible exact spec_l6Dec.mono _ _)
   | (with_reducible exact LeO.refl _)
   | (with_reducible exact LeO.none _)
   | (with_reducible refine LeO.ite ?_ ?_)
   | (with_reducible refine LeO.bind ?_ (fun _ => ?_))
   | exact spec_InsOk.mono _ _ _ _
   | exact spec_l3Needs.mono _ _
   | exact spec_l6Dec.mono _ _
   | exact LeO.none _
   | refine LeO.ite ?_ ?_
   | refine LeO.bind ?_ (fun _ => ?_)
set_option maxHeartbeats 8000000 in
set_option maxRecDepth 100000 in
theorem spec_InsText.calls (k : Nat) (a0_0 : ByteArray) (a0_1 : Int) (a0_2 : Int) (r : ByteArray) (w : World) (h : spec_InsText.f k a0_0 a0_1 a0_2 = some r) :
  Calls Tryd.prog 22 #[.agg #[.string a0_0,.int .i64 a0_1,.int .i64 a0_2]] w fun e w' => e = .returned (.string r) ∧ Below w.heap.size w w':=by
 have hu26:=Tryd.underlying26
 have HB:=Aside0.mk (Below.refl w.heap.size w)
 have H : ((spec_InsOk.f k a0_0 a0_1 a0_2).bind fun t197 => (if t197 = true then ((spec_l3Needs.f k a0_0).bind fun bt198 => (if bt198.2.1 > 0 then (if a0_0.size + 1 ≤ 9223372036854775807 then ((spec_l6Dec.f k a0_1).bind fun t203 => (if (a0_0 ++ (⟨#[32]⟩ : ByteArray)).size + t203.size ≤ 9223372036854775807 then (if bt198.2.2.1 > 0 then (if ((a0_0 ++ (⟨#[32]⟩ : ByteArray)) ++ t203).size + 1 ≤ 9223372036854775807 then ((spec_l6Dec.f k a0_2).bind fun t204 => (if (((a0_0 ++ (⟨#[32]⟩ : ByteArray)) ++ t203) ++ (⟨#[32]⟩ : ByteArray)).size + t204.size ≤ 9223372036854775807 then (some ((((a0_0 ++ (⟨#[32]⟩ : ByteArray)) ++ t203) ++ (⟨#[32]⟩ : ByteArray)) ++ t204)) else (none))) else (none)) else (some ((a0_0 ++ (⟨#[32]⟩ : ByteArray)) ++ t203))) else (none))) else (none)) else (if bt198.2.2.1 > 0 then (if a0_0.size + 1 ≤ 9223372036854775807 then ((spec_l6Dec.f k a0_2).bind fun t205 => (if (a0_0 ++ (⟨#[32]⟩ : ByteArray)).size + t205.size ≤ 9223372036854775807 then (some ((a0_0 ++ (⟨#[32]⟩ : ByteArray)) ++ t205)) else (none))) else (none)) else (some a0_0)))) else (some (⟨#[]⟩ : ByteArray)))) = some r:=h
 clear h
 replace H:=Option.bind_eq_some_iff.mp H
 obtain ⟨t197,A20,H⟩:=H
 replace H : (if t197 = true then ((spec_l3Needs.f k a0_0).bind fun bt198 => (if bt198.2.1 > 0 then (if a0_0.size + 1 ≤ 9223372036854775807 then ((spec_l6Dec.f k a0_1).bind fun t203 => (if (a0_0 ++ (⟨#[32]⟩ : ByteArray)).size + t203.size ≤ 9223372036854775807 then (if bt198.2.2.1 > 0 then (if ((a0_0 ++ (⟨#[32]⟩ : ByteArray)) ++ t203).size + 1 ≤ 9223372036854775807 then ((spec_l6Dec.f k a0_2).bind fun t204 => (if (((a0_0 ++ (⟨#[32]⟩ : ByteArray)) ++ t203) ++ (⟨#[32]⟩ : ByteArray)).size + t204.size ≤ 9223372036854775807 then (some ((((a0_0 ++ (⟨#[32]⟩ : ByteArray)) ++ t203) ++ (⟨#[32]⟩ : ByteArray)) ++ t204)) else (none))) else (none)) else (some ((a0_0 ++ (⟨#[32]⟩ : ByteArray)) ++ t203))) else (none))) else (none)) else (if bt198.2.2.1 > 0 then (if a0_0.size + 1 ≤ 9223372036854775807 then ((spec_l6Dec.f k a0_2).bind fun t205 => (if (a0_0 ++ (⟨#[32]⟩ : ByteArray)).size + t205.size ≤ 9223372036854775807 then (some ((a0_0 ++ (⟨#[32]⟩ : ByteArray)) ++ t205)) else (none))) else (none)) else (some a0_0)))) else (some (⟨#[]⟩ : ByteArray))) = some r:=H
 have A2:=Aside0.mk A20
 clear A20
 by_cases c3 : t197 = true
 ·subst c3
  have H1 : ((spec_l3Needs.f k a0_0).bind fun bt198 => (if bt198.2.1 > 0 then (if a0_0.size + 1 ≤ 9223372036854775807 then ((spec_l6Dec.f k a0_1).bind fun t203 => (if (a0_0 ++ (⟨#[32]⟩ : ByteArray)).size + t203.size ≤ 9223372036854775807 then (if bt198.2.2.1 > 0 then (if ((a0_0 ++ (⟨#[32]⟩ : ByteArray)) ++ t203).size + 1 ≤ 9223372036854775807 then ((spec_l6Dec.f k a0_2).bind fun t204 => (if (((a0_0 ++ (⟨#[32]⟩ : ByteArray)) ++ t203) ++ (⟨#[32]⟩ : ByteArray)).size + t204.size ≤ 9223372036854775807 then (some ((((a0_0 ++ (⟨#[32]⟩ : ByteArray)) ++ t203) ++ (⟨#[32]⟩ : ByteArray)) ++ t204)) else (none))) else (none)) else (some ((a0_0 ++ (⟨#[32]⟩ : ByteArray)) ++ t203))) else (none))) else (none)) else (if bt198.2.2.1 > 0 then (if a0_0.size + 1 ≤ 9223372036854775807 then ((spec_l6Dec.f k a0_2).bind fun t205 => (if (a0_0 ++ (⟨#[32]⟩ : ByteArray)).size + t205.size ≤ 9223372036854775807 then (some ((a0_0 ++ (⟨#[32]⟩ : ByteArray)) ++ t205)) else (none))) else (none)) else (some a0_0)))) = some r:=by rw [if_pos rfl] at H;exact H
  clear H
  have H:=H1
  clear H1
  replace H:=Option.bind_eq_some_iff.mp H
  obtain ⟨⟨t198,t199,t200,t201⟩,A40,H⟩:=H
  replace H : (if t199 > 0 then (if a0_0.size + 1 ≤ 9223372036854775807 then ((spec_l6Dec.f k a0_1).bind fun t203 => (if (a0_0 ++ (⟨#[32]⟩ : ByteArray)).size + t203.size ≤ 9223372036854775807 then (if t200 > 0 then (if ((a0_0 ++ (⟨#[32]⟩ : ByteArray)) ++ t203).size + 1 ≤ 9223372036854775807 then ((spec_l6Dec.f k a0_2).bind fun t204 => (if (((a0_0 ++ (⟨#[32]⟩ : ByteArray)) ++ t203) ++ (⟨#[32]⟩ : ByteArray)).size + t204.size ≤ 9223372036854775807 then (some ((((a0_0 ++ (⟨#[32]⟩ : ByteArray)) ++ t203) ++ (⟨#[32]⟩ : ByteArray)) ++ t204)) else (none))) else (none)) else (some ((a0_0 ++ (⟨#[32]⟩ : ByteArray)) ++ t203))) else (none))) else (none)) else (if t200 > 0 then (if a0_0.size + 1 ≤ 9223372036854775807 then ((spec_l6Dec.f k a0_2).bind fun t205 => (if (a0_0 ++ (⟨#[32]⟩ : ByteArray)).size + t205.size ≤ 9223372036854775807 then (some ((a0_0 ++ (⟨#[32]⟩ : ByteArray)) ++ t205)) else (none))) else (none)) else (some a0_0))) = some r:=H
  have A4:=Aside0.mk A40
  clear A40
  by_cases c5 : t199 > 0
  ·rw [if_pos c5] at H
   have c5b0 : decide (0 < t199) = true:=decide_eq_true c5
   clear c5
   by_cases c6 : a0_0.size + 1 ≤ 9223372036854775807
   ·rw [if_pos c6] at H
    have c6b0:=eq_true c6
    have c6b1 : decide (a0_0.size + 1 ≤ 9223372036854775807) = true:=decide_eq_true c6
    try have c6b2 : (9223372036854775807 < a0_0.size + 1) = False:=eq_false (Nat.not_lt.2 c6)
    replace H:=Option.bind_eq_some_iff.mp H
    obtain ⟨t203,A70,H⟩:=H
    replace H : (if (a0_0 ++ (⟨#[32]⟩ : ByteArray)).size + t203.size ≤ 9223372036854775807 then (if t200 > 0 then (if ((a0_0 ++ (⟨#[32]⟩ : ByteArray)) ++ t203).size + 1 ≤ 9223372036854775807 then ((spec_l6Dec.f k a0_2).bind fun t204 => (if (((a0_0 ++ (⟨#[32]⟩ : ByteArray)) ++ t203) ++ (⟨#[32]⟩ : ByteArray)).size + t204.size ≤ 9223372036854775807 then (some ((((a0_0 ++ (⟨#[32]⟩ : ByteArray)) ++ t203) ++ (⟨#[32]⟩ : ByteArray)) ++ t204)) else (none))) else (none)) else (some ((a0_0 ++ (⟨#[32]⟩ : ByteArray)) ++ t203))) else (none)) = some r:=H
    have A7:=Aside0.mk A70
    clear A70
    by_cases c8 : (a0_0 ++ (⟨#[32]⟩ : ByteArray)).size + t203.size ≤ 9223372036854775807
    ·rw [if_pos c8] at H
     have hzc8_ : (9223372036854775807 < a0_0.size + 1 + t203.size) = False:=eq_false (by have h_:=c8;simp only [ByteArray.size_append] at h_;have h0_ : (⟨#[32]⟩ : ByteArray).size = 1:=rfl;omega)
     have c8b0:=eq_true c8
     have c8b1 : decide ((a0_0 ++ (⟨#[32]⟩ : ByteArray)).size + t203.size ≤ 9223372036854775807) = true:=decide_eq_true c8
     try have c8b2 : (9223372036854775807 < (a0_0 ++ (⟨#[32]⟩ : ByteArray)).size + t203.size) = False:=eq_false (Nat.not_lt.2 c8)
     by_cases c9 : t200 > 0
     ·rw [if_pos c9] at H
      have c9b0 : decide (0 < t200) = true:=decide_eq_true c9
      clear c9
      by_cases c10 : ((a0_0 ++ (⟨#[32]⟩ : ByteArray)) ++ t203).size + 1 ≤ 9223372036854775807
      ·rw [if_pos c10] at H
       have hzc10_ : (9223372036854775807 < a0_0.size + 1 + t203.size + 1) = False:=eq_false (by have h_:=c10;simp only [ByteArray.size_append] at h_;have h0_ : (⟨#[32]⟩ : ByteArray).size = 1:=rfl;omega)
       have c10b0:=eq_true c10
       have c10b1 : decide (((a0_0 ++ (⟨#[32]⟩ : ByteArray)) ++ t203).size + 1 ≤ 9223372036854775807) = true:=decide_eq_true c10
       try have c10b2 : (9223372036854775807 < ((a0_0 ++ (⟨#[32]⟩ : ByteArray)) ++ t203).size + 1) = False:=eq_false (Nat.not_lt.2 c10)
       replace H:=Option.bind_eq_some_iff.mp H
       obtain ⟨t204,A110,H⟩:=H
       replace H : (if (((a0_0 ++ (⟨#[32]⟩ : ByteArray)) ++ t203) ++ (⟨#[32]⟩ : ByteArray)).size + t204.size ≤ 9223372036854775807 then (some ((((a0_0 ++ (⟨#[32]⟩ : ByteArray)) ++ t203) ++ (⟨#[32]⟩ : ByteArray)) ++ t204)) else (none)) = some r:=H
       have A11:=Aside0.mk A110
       clear A110
       by_cases c12 : (((a0_0 ++ (⟨#[32]⟩ : ByteArray)) ++ t203) ++ (⟨#[32]⟩ : ByteArray)).size + t204.size ≤ 9223372036854775807
       ·rw [if_pos c12] at H
        have hzc12_ : (9223372036854775807 < a0_0.size + 1 + t203.size + 1 + t204.size) = False:=eq_false (by have h_:=c12;simp only [ByteArray.size_append] at h_;have h0_ : (⟨#[32]⟩ : ByteArray).size = 1:=rfl;omega)
        have c12b0:=eq_true c12
        have c12b1 : decide ((((a0_0 ++ (⟨#[32]⟩ : ByteArray)) ++ t203) ++ (⟨#[32]⟩ : ByteArray)).size + t204.size ≤ 9223372036854775807) = true:=decide_eq_true c12
        try have c12b2 : (9223372036854775807 < (((a0_0 ++ (⟨#[32]⟩ : ByteArray)) ++ t203) ++ (⟨#[32]⟩ : ByteArray)).size + t204.size) = False:=eq_false (Nat.not_lt.2 c12)
        obtain rfl:=Option.some.inj H
        go_enter Tryd.func22,Tryd.ntmps22
        go_wp2_with (first | ((with_reducible refine gate_dst (N:=1) rfl ?_);refine Up.bx 1 26 #[.string a0_0,.int .i64 a0_1,.int .i64 a0_2] ?_;intro gb196 hg w13 hbox hb;have n0_:=Up.BB HB hb;have n1_:=Aside0.mk (hbox);have n2_:=Up.gw hg HB;have n3_:=Up.gw hg HB;clear HB;have HB:=n0_;have BK196:=n1_;have GW196:=n2_;have GE196:=n3_;clear n0_ n1_ n2_ n3_ hb hbox hg;have hcz14_0:=Up.c0 BK196;have hcz14_1:=Up.c1 BK196;have hcz14_2:=Up.c2 BK196;have hfz14_0:=blk_frozen BK196.out 0;have hfz14_1:=blk_frozen BK196.out 1;have hfz14_2:=blk_frozen BK196.out 2) | ((with_reducible refine gate_callee (f:=12) rfl ?_);refine Up.gl (some 7) Tryd.func12 #[.agg #[.string a0_0,.int .i64 a0_1,.int .i64 a0_2]] ?_;(with_reducible refine (spec_InsOk.calls k a0_0 a0_1 a0_2 true _ A2.out).mono ?_);rintro e w15 ⟨rfl,hb⟩;refine ⟨_,rfl,?_⟩;have n0_:=Up.KB BK196 hb;have n1_:=Aside0.mk (below_step (Up.Bx HB) hb);clear BK196 HB;have BK196:=n0_;have HB:=n1_;clear n0_ n1_;(try clear hb);(try clear hb2);(try clear hk);(try clear hi);have hcz16_0:=Up.c0 BK196;have hcz16_1:=Up.c1 BK196;have hcz16_2:=Up.c2 BK196;have hfz16_0:=blk_frozen BK196.out 0;have hfz16_1:=blk_frozen BK196.out 1;have hfz16_2:=blk_frozen BK196.out 2) | ((with_reducible refine gate_callee (f:=30) rfl ?_);refine Up.gl (some 12) Tryd.func30 #[.string a0_0] ?_;(with_reducible refine (spec_l3Needs.calls k a0_0 t198 t199 t200 t201 _ A4.out).mono ?_);rintro e w17 ⟨rfl,hb⟩;refine ⟨_,rfl,?_⟩;have n0_:=Up.KB BK196 hb;have n1_:=Aside0.mk (below_step (Up.Bx HB) hb);clear BK196 HB;have BK196:=n0_;have HB:=n1_;clear n0_ n1_;(try clear hb);(try clear hb2);(try clear hk);(try clear hi)) | ((with_reducible refine gate_dst (N:=3) rfl ?_);refine Up.bx 3 26 #[.string (⟨#[]⟩ : ByteArray),.int .i64 0,.int .i64 0] ?_;intro gb202 hg w18 hbox hb;have n0_:=Up.KB BK196 hb;have n1_:=Aside0.mk (below_step (Up.Bx HB) hb);have n2_:=Aside0.mk (hbox);have n3_:=Up.gw hg HB;have n4_:=Up.gw hg HB;have n5_:=Up.nl hg BK196;have n6_:=Up.ng hg BK196;clear BK196 HB;have BK196:=n0_;have HB:=n1_;have BK202:=n2_;have GW202:=n3_;have GE202:=n4_;have NB196_202:=n5_;have NB202_196:=n6_;clear n0_ n1_ n2_ n3_ n4_ n5_ n6_ hb hbox hg;have hnb19:=NB202_196.out;have hnc19:=NB196_202.out;have hcz20_0:=Up.c0 BK202;have hcz20_1:=Up.c1 BK202;have hcz20_2:=Up.c2 BK202;have hfz20_0:=blk_frozen BK202.out 0;have hfz20_1:=blk_frozen BK202.out 1;have hfz20_2:=blk_frozen BK202.out 2;have hcz21_0:=Up.c0 BK196;have hcz21_1:=Up.c1 BK196;have hcz21_2:=Up.c2 BK196;have hfz21_0:=blk_frozen BK196.out 0;have hfz21_1:=blk_frozen BK196.out 1;have hfz21_2:=blk_frozen BK196.out 2) | ((with_reducible refine gate_callee (f:=38) rfl ?_);refine Up.gl (some 24) Tryd.func38 #[.int .i64 a0_1] ?_;(with_reducible refine (spec_l6Dec.calls k a0_1 t203 _ A7.out).mono ?_);rintro e w22 ⟨rfl,hb⟩;refine ⟨_,rfl,?_⟩;have n0_:=Aside0.mk (blk_below (g:=gb196) (o:=.cells #[.string a0_0,.int .i64 a0_1,.int .i64 a0_2] 26 (0,0)) (Up.Kx BK196) hb);have n1_:=Aside0.mk (blk_below (g:=gb202) (o:=.cells #[.string t198,.int .i64 t199,.int .i64 t200] 26 (0,0)) (Up.Kx BK202) hb);have n2_:=Aside0.mk (below_step (Up.Bx HB) hb);clear BK196 BK202 HB;have BK196:=n0_;have BK202:=n1_;have HB:=n2_;clear n0_ n1_ n2_;(try clear hb);(try clear hb2);(try clear hk);(try clear hi);have hcz23_0:=Up.c0 BK202;have hcz23_1:=Up.c1 BK202;have hcz23_2:=Up.c2 BK202;have hfz23_0:=blk_frozen BK202.out 0;have hfz23_1:=blk_frozen BK202.out 1;have hfz23_2:=blk_frozen BK202.out 2;have hcz24_0:=Up.c0 BK196;have hcz24_1:=Up.c1 BK196;have hcz24_2:=Up.c2 BK196;have hfz24_0:=blk_frozen BK196.out 0;have hfz24_1:=blk_frozen BK196.out 1;have hfz24_2:=blk_frozen BK196.out 2) | ((with_reducible refine gate_callee (f:=38) rfl ?_);refine Up.gl (some 33) Tryd.func38 #[.int .i64 a0_2] ?_;(with_reducible refine (spec_l6Dec.calls k a0_2 t204 _ A11.out).mono ?_);rintro e w25 ⟨rfl,hb⟩;refine ⟨_,rfl,?_⟩;have n0_:=Up.KB BK196 hb;have n1_:=Up.KB BK202 hb;have n2_:=Aside0.mk (below_step (Up.Bx HB) hb);clear BK196 BK202 HB;have BK196:=n0_;have BK202:=n1_;have HB:=n2_;clear n0_ n1_ n2_;(try clear hb);(try clear hb2);(try clear hk);(try clear hi)))
        go_ret
        exact Up.e1 (Up.Bx HB)
       ·rw [if_neg c12] at H
        exact absurd H (by simp)
      ·rw [if_neg c10] at H
       exact absurd H (by simp)
     ·rw [if_neg c9] at H
      have c9b0 : decide (0 < t200) = false:=decide_eq_false c9
      clear c9
      obtain rfl:=Option.some.inj H
      go_enter Tryd.func22,Tryd.ntmps22
      go_wp2_with (first | ((with_reducible refine gate_dst (N:=1) rfl ?_);refine Up.bx 1 26 #[.string a0_0,.int .i64 a0_1,.int .i64 a0_2] ?_;intro gb196 hg w26 hbox hb;have n0_:=Up.BB HB hb;have n1_:=Aside0.mk (hbox);have n2_:=Up.gw hg HB;have n3_:=Up.gw hg HB;clear HB;have HB:=n0_;have BK196:=n1_;have GW196:=n2_;have GE196:=n3_;clear n0_ n1_ n2_ n3_ hb hbox hg;have hcz27_0:=Up.c0 BK196;have hcz27_1:=Up.c1 BK196;have hcz27_2:=Up.c2 BK196;have hfz27_0:=blk_frozen BK196.out 0;have hfz27_1:=blk_frozen BK196.out 1;have hfz27_2:=blk_frozen BK196.out 2) | ((with_reducible refine gate_callee (f:=12) rfl ?_);refine Up.gl (some 7) Tryd.func12 #[.agg #[.string a0_0,.int .i64 a0_1,.int .i64 a0_2]] ?_;(with_reducible refine (spec_InsOk.calls k a0_0 a0_1 a0_2 true _ A2.out).mono ?_);rintro e w28 ⟨rfl,hb⟩;refine ⟨_,rfl,?_⟩;have n0_:=Up.KB BK196 hb;have n1_:=Aside0.mk (below_step (Up.Bx HB) hb);clear BK196 HB;have BK196:=n0_;have HB:=n1_;clear n0_ n1_;(try clear hb);(try clear hb2);(try clear hk);(try clear hi);have hcz29_0:=Up.c0 BK196;have hcz29_1:=Up.c1 BK196;have hcz29_2:=Up.c2 BK196;have hfz29_0:=blk_frozen BK196.out 0;have hfz29_1:=blk_frozen BK196.out 1;have hfz29_2:=blk_frozen BK196.out 2) | ((with_reducible refine gate_callee (f:=30) rfl ?_);refine Up.gl (some 12) Tryd.func30 #[.string a0_0] ?_;(with_reducible refine (spec_l3Needs.calls k a0_0 t198 t199 t200 t201 _ A4.out).mono ?_);rintro e w30 ⟨rfl,hb⟩;refine ⟨_,rfl,?_⟩;have n0_:=Up.KB BK196 hb;have n1_:=Aside0.mk (below_step (Up.Bx HB) hb);clear BK196 HB;have BK196:=n0_;have HB:=n1_;clear n0_ n1_;(try clear hb);(try clear hb2);(try clear hk);(try clear hi)) | ((with_reducible refine gate_dst (N:=3) rfl ?_);refine Up.bx 3 26 #[.string (⟨#[]⟩ : ByteArray),.int .i64 0,.int .i64 0] ?_;intro gb202 hg w31 hbox hb;have n0_:=Up.KB BK196 hb;have n1_:=Aside0.mk (below_step (Up.Bx HB) hb);have n2_:=Aside0.mk (hbox);have n3_:=Up.gw hg HB;have n4_:=Up.gw hg HB;have n5_:=Up.nl hg BK196;have n6_:=Up.ng hg BK196;clear BK196 HB;have BK196:=n0_;have HB:=n1_;have BK202:=n2_;have GW202:=n3_;have GE202:=n4_;have NB196_202:=n5_;have NB202_196:=n6_;clear n0_ n1_ n2_ n3_ n4_ n5_ n6_ hb hbox hg;have hnb32:=NB202_196.out;have hnc32:=NB196_202.out;have hcz33_0:=Up.c0 BK202;have hcz33_1:=Up.c1 BK202;have hcz33_2:=Up.c2 BK202;have hfz33_0:=blk_frozen BK202.out 0;have hfz33_1:=blk_frozen BK202.out 1;have hfz33_2:=blk_frozen BK202.out 2;have hcz34_0:=Up.c0 BK196;have hcz34_1:=Up.c1 BK196;have hcz34_2:=Up.c2 BK196;have hfz34_0:=blk_frozen BK196.out 0;have hfz34_1:=blk_frozen BK196.out 1;have hfz34_2:=blk_frozen BK196.out 2) | ((with_reducible refine gate_callee (f:=38) rfl ?_);refine Up.gl (some 24) Tryd.func38 #[.int .i64 a0_1] ?_;(with_reducible refine (spec_l6Dec.calls k a0_1 t203 _ A7.out).mono ?_);rintro e w35 ⟨rfl,hb⟩;refine ⟨_,rfl,?_⟩;have n0_:=Aside0.mk (blk_below (g:=gb196) (o:=.cells #[.string a0_0,.int .i64 a0_1,.int .i64 a0_2] 26 (0,0)) (Up.Kx BK196) hb);have n1_:=Aside0.mk (blk_below (g:=gb202) (o:=.cells #[.string t198,.int .i64 t199,.int .i64 t200] 26 (0,0)) (Up.Kx BK202) hb);have n2_:=Aside0.mk (below_step (Up.Bx HB) hb);clear BK196 BK202 HB;have BK196:=n0_;have BK202:=n1_;have HB:=n2_;clear n0_ n1_ n2_;(try clear hb);(try clear hb2);(try clear hk);(try clear hi);have hcz36_0:=Up.c0 BK202;have hcz36_1:=Up.c1 BK202;have hcz36_2:=Up.c2 BK202;have hfz36_0:=blk_frozen BK202.out 0;have hfz36_1:=blk_frozen BK202.out 1;have hfz36_2:=blk_frozen BK202.out 2))
      go_ret
      exact Up.e1 (Up.Bx HB)
    ·rw [if_neg c8] at H
     exact absurd H (by simp)
   ·rw [if_neg c6] at H
    exact absurd H (by simp)
  ·rw [if_neg c5] at H
   have c5b0 : decide (0 < t199) = false:=decide_eq_false c5
   clear c5
   by_cases c37 : t200 > 0
   ·rw [if_pos c37] at H
    have c37b0 : decide (0 < t200) = true:=decide_eq_true c37
    clear c37
    by_cases c38 : a0_0.size + 1 ≤ 9223372036854775807
    ·rw [if_pos c38] at H
     have c38b0:=eq_true c38
     have c38b1 : decide (a0_0.size + 1 ≤ 9223372036854775807) = true:=decide_eq_true c38
     try have c38b2 : (9223372036854775807 < a0_0.size + 1) = False:=eq_false (Nat.not_lt.2 c38)
     replace H:=Option.bind_eq_some_iff.mp H
     obtain ⟨t205,A390,H⟩:=H
     replace H : (if (a0_0 ++ (⟨#[32]⟩ : ByteArray)).size + t205.size ≤ 9223372036854775807 then (some ((a0_0 ++ (⟨#[32]⟩ : ByteArray)) ++ t205)) else (none)) = some r:=H
     have A39:=Aside0.mk A390
     clear A390
     by_cases c40 : (a0_0 ++ (⟨#[32]⟩ : ByteArray)).size + t205.size ≤ 9223372036854775807
     ·rw [if_pos c40] at H
      have hzc40_ : (9223372036854775807 < a0_0.size + 1 + t205.size) = False:=eq_false (by have h_:=c40;simp only [ByteArray.size_append] at h_;have h0_ : (⟨#[32]⟩ : ByteArray).size = 1:=rfl;omega)
      have c40b0:=eq_true c40
      have c40b1 : decide ((a0_0 ++ (⟨#[32]⟩ : ByteArray)).size + t205.size ≤ 9223372036854775807) = true:=decide_eq_true c40
      try have c40b2 : (9223372036854775807 < (a0_0 ++ (⟨#[32]⟩ : ByteArray)).size + t205.size) = False:=eq_false (Nat.not_lt.2 c40)
      obtain rfl:=Option.some.inj H
      go_enter Tryd.func22,Tryd.ntmps22
      go_wp2_with (first | ((with_reducible refine gate_dst (N:=1) rfl ?_);refine Up.bx 1 26 #[.string a0_0,.int .i64 a0_1,.int .i64 a0_2] ?_;intro gb196 hg w41 hbox hb;have n0_:=Up.BB HB hb;have n1_:=Aside0.mk (hbox);have n2_:=Up.gw hg HB;have n3_:=Up.gw hg HB;clear HB;have HB:=n0_;have BK196:=n1_;have GW196:=n2_;have GE196:=n3_;clear n0_ n1_ n2_ n3_ hb hbox hg;have hcz42_0:=Up.c0 BK196;have hcz42_1:=Up.c1 BK196;have hcz42_2:=Up.c2 BK196;have hfz42_0:=blk_frozen BK196.out 0;have hfz42_1:=blk_frozen BK196.out 1;have hfz42_2:=blk_frozen BK196.out 2) | ((with_reducible refine gate_callee (f:=12) rfl ?_);refine Up.gl (some 7) Tryd.func12 #[.agg #[.string a0_0,.int .i64 a0_1,.int .i64 a0_2]] ?_;(with_reducible refine (spec_InsOk.calls k a0_0 a0_1 a0_2 true _ A2.out).mono ?_);rintro e w43 ⟨rfl,hb⟩;refine ⟨_,rfl,?_⟩;have n0_:=Up.KB BK196 hb;have n1_:=Aside0.mk (below_step (Up.Bx HB) hb);clear BK196 HB;have BK196:=n0_;have HB:=n1_;clear n0_ n1_;(try clear hb);(try clear hb2);(try clear hk);(try clear hi);have hcz44_0:=Up.c0 BK196;have hcz44_1:=Up.c1 BK196;have hcz44_2:=Up.c2 BK196;have hfz44_0:=blk_frozen BK196.out 0;have hfz44_1:=blk_frozen BK196.out 1;have hfz44_2:=blk_frozen BK196.out 2) | ((with_reducible refine gate_callee (f:=30) rfl ?_);refine Up.gl (some 12) Tryd.func30 #[.string a0_0] ?_;(with_reducible refine (spec_l3Needs.calls k a0_0 t198 t199 t200 t201 _ A4.out).mono ?_);rintro e w45 ⟨rfl,hb⟩;refine ⟨_,rfl,?_⟩;have n0_:=Up.KB BK196 hb;have n1_:=Aside0.mk (below_step (Up.Bx HB) hb);clear BK196 HB;have BK196:=n0_;have HB:=n1_;clear n0_ n1_;(try clear hb);(try clear hb2);(try clear hk);(try clear hi)) | ((with_reducible refine gate_dst (N:=3) rfl ?_);refine Up.bx 3 26 #[.string (⟨#[]⟩ : ByteArray),.int .i64 0,.int .i64 0] ?_;intro gb202 hg w46 hbox hb;have n0_:=Up.KB BK196 hb;have n1_:=Aside0.mk (below_step (Up.Bx HB) hb);have n2_:=Aside0.mk (hbox);have n3_:=Up.gw hg HB;have n4_:=Up.gw hg HB;have n5_:=Up.nl hg BK196;have n6_:=Up.ng hg BK196;clear BK196 HB;have BK196:=n0_;have HB:=n1_;have BK202:=n2_;have GW202:=n3_;have GE202:=n4_;have NB196_202:=n5_;have NB202_196:=n6_;clear n0_ n1_ n2_ n3_ n4_ n5_ n6_ hb hbox hg;have hnb47:=NB202_196.out;have hnc47:=NB196_202.out;have hcz48_0:=Up.c0 BK202;have hcz48_1:=Up.c1 BK202;have hcz48_2:=Up.c2 BK202;have hfz48_0:=blk_frozen BK202.out 0;have hfz48_1:=blk_frozen BK202.out 1;have hfz48_2:=blk_frozen BK202.out 2;have hcz49_0:=Up.c0 BK196;have hcz49_1:=Up.c1 BK196;have hcz49_2:=Up.c2 BK196;have hfz49_0:=blk_frozen BK196.out 0;have hfz49_1:=blk_frozen BK196.out 1;have hfz49_2:=blk_frozen BK196.out 2) | ((with_reducible refine gate_callee (f:=38) rfl ?_);refine Up.gl (some 33) Tryd.func38 #[.int .i64 a0_2] ?_;(with_reducible refine (spec_l6Dec.calls k a0_2 t205 _ A39.out).mono ?_);rintro e w50 ⟨rfl,hb⟩;refine ⟨_,rfl,?_⟩;have n0_:=Aside0.mk (blk_below (g:=gb196) (o:=.cells #[.string a0_0,.int .i64 a0_1,.int .i64 a0_2] 26 (0,0)) (Up.Kx BK196) hb);have n1_:=Aside0.mk (blk_below (g:=gb202) (o:=.cells #[.string t198,.int .i64 t199,.int .i64 t200] 26 (0,0)) (Up.Kx BK202) hb);have n2_:=Aside0.mk (below_step (Up.Bx HB) hb);clear BK196 BK202 HB;have BK196:=n0_;have BK202:=n1_;have HB:=n2_;clear n0_ n1_ n2_;(try clear hb);(try clear hb2);(try clear hk);(try clear hi)))
      go_ret
      exact Up.e1 (Up.Bx HB)
     ·rw [if_neg c40] at H
      exact absurd H (by simp)
    ·rw [if_neg c38] at H
     exact absurd H (by simp)
   ·rw [if_neg c37] at H
    have c37b0 : decide (0 < t200) = false:=decide_eq_false c37
    clear c37
    obtain rfl:=Option.some.inj H
    go_enter Tryd.func22,Tryd.ntmps22
    go_wp2_with (first | ((with_reducible refine gate_dst (N:=1) rfl ?_);refine Up.bx 1 26 #[.string a0_0,.int .i64 a0_1,.int .i64 a0_2] ?_;intro gb196 hg w51 hbox hb;have n0_:=Up.BB HB hb;have n1_:=Aside0.mk (hbox);have n2_:=Up.gw hg HB;have n3_:=Up.gw hg HB;clear HB;have HB:=n0_;have BK196:=n1_;have GW196:=n2_;have GE196:=n3_;clear n0_ n1_ n2_ n3_ hb hbox hg;have hcz52_0:=Up.c0 BK196;have hcz52_1:=Up.c1 BK196;have hcz52_2:=Up.c2 BK196;have hfz52_0:=blk_frozen BK196.out 0;have hfz52_1:=blk_frozen BK196.out 1;have hfz52_2:=blk_frozen BK196.out 2) | ((with_reducible refine gate_callee (f:=12) rfl ?_);refine Up.gl (some 7) Tryd.func12 #[.agg #[.string a0_0,.int .i64 a0_1,.int .i64 a0_2]] ?_;(with_reducible refine (spec_InsOk.calls k a0_0 a0_1 a0_2 true _ A2.out).mono ?_);rintro e w53 ⟨rfl,hb⟩;refine ⟨_,rfl,?_⟩;have n0_:=Up.KB BK196 hb;have n1_:=Aside0.mk (below_step (Up.Bx HB) hb);clear BK196 HB;have BK196:=n0_;have HB:=n1_;clear n0_ n1_;(try clear hb);(try clear hb2);(try clear hk);(try clear hi);have hcz54_0:=Up.c0 BK196;have hcz54_1:=Up.c1 BK196;have hcz54_2:=Up.c2 BK196;have hfz54_0:=blk_frozen BK196.out 0;have hfz54_1:=blk_frozen BK196.out 1;have hfz54_2:=blk_frozen BK196.out 2) | ((with_reducible refine gate_callee (f:=30) rfl ?_);refine Up.gl (some 12) Tryd.func30 #[.string a0_0] ?_;(with_reducible refine (spec_l3Needs.calls k a0_0 t198 t199 t200 t201 _ A4.out).mono ?_);rintro e w55 ⟨rfl,hb⟩;refine ⟨_,rfl,?_⟩;have n0_:=Up.KB BK196 hb;have n1_:=Aside0.mk (below_step (Up.Bx HB) hb);clear BK196 HB;have BK196:=n0_;have HB:=n1_;clear n0_ n1_;(try clear hb);(try clear hb2);(try clear hk);(try clear hi)) | ((with_reducible refine gate_dst (N:=3) rfl ?_);refine Up.bx 3 26 #[.string (⟨#[]⟩ : ByteArray),.int .i64 0,.int .i64 0] ?_;intro gb202 hg w56 hbox hb;have n0_:=Up.KB BK196 hb;have n1_:=Aside0.mk (below_step (Up.Bx HB) hb);have n2_:=Aside0.mk (hbox);have n3_:=Up.gw hg HB;have n4_:=Up.gw hg HB;have n5_:=Up.nl hg BK196;have n6_:=Up.ng hg BK196;clear BK196 HB;have BK196:=n0_;have HB:=n1_;have BK202:=n2_;have GW202:=n3_;have GE202:=n4_;have NB196_202:=n5_;have NB202_196:=n6_;clear n0_ n1_ n2_ n3_ n4_ n5_ n6_ hb hbox hg;have hnb57:=NB202_196.out;have hnc57:=NB196_202.out;have hcz58_0:=Up.c0 BK202;have hcz58_1:=Up.c1 BK202;have hcz58_2:=Up.c2 BK202;have hfz58_0:=blk_frozen BK202.out 0;have hfz58_1:=blk_frozen BK202.out 1;have hfz58_2:=blk_frozen BK202.out 2;have hcz59_0:=Up.c0 BK196;have hcz59_1:=Up.c1 BK196;have hcz59_2:=Up.c2 BK196;have hfz59_0:=blk_frozen BK196.out 0;have hfz59_1:=blk_frozen BK196.out 1;have hfz59_2:=blk_frozen BK196.out 2))
    go_ret
    exact Up.e1 (Up.Bx HB)
 ·replace c3:=Bool.eq_false_iff.mpr c3
  subst c3
  have H1 : (some (⟨#[]⟩ : ByteArray)) = some r:=by rw [if_neg (show ¬ (false = true) by decide)] at H;exact H
  clear H
  have H:=H1
  clear H1
  obtain rfl:=Option.some.inj H
  go_enter Tryd.func22,Tryd.ntmps22
  go_wp2_with (first | ((with_reducible refine gate_dst (N:=1) rfl ?_);refine Up.bx 1 26 #[.string a0_0,.int .i64 a0_1,.int .i64 a0_2] ?_;intro gb196 hg w60 hbox hb;have n0_:=Up.BB HB hb;have n1_:=Aside0.mk (hbox);have n2_:=Up.gw hg HB;have n3_:=Up.gw hg HB;clear HB;have HB:=n0_;have BK196:=n1_;have GW196:=n2_;have GE196:=n3_;clear n0_ n1_ n2_ n3_ hb hbox hg;have hcz61_0:=Up.c0 BK196;have hcz61_1:=Up.c1 BK196;have hcz61_2:=Up.c2 BK196;have hfz61_0:=blk_frozen BK196.out 0;have hfz61_1:=blk_frozen BK196.out 1;have hfz61_2:=blk_frozen BK196.out 2) | ((with_reducible refine gate_callee (f:=12) rfl ?_);refine Up.gl (some 7) Tryd.func12 #[.agg #[.string a0_0,.int .i64 a0_1,.int .i64 a0_2]] ?_;(with_reducible refine (spec_InsOk.calls k a0_0 a0_1 a0_2 false _ A2.out).mono ?_);rintro e w62 ⟨rfl,hb⟩;refine ⟨_,rfl,?_⟩;have n0_:=Up.KB BK196 hb;have n1_:=Aside0.mk (below_step (Up.Bx HB) hb);clear BK196 HB;have BK196:=n0_;have HB:=n1_;clear n0_ n1_;(try clear hb);(try clear hb2);(try clear hk);(try clear hi)))
  go_ret
  exact Up.e1 (Up.Bx HB)

end Go.Proofs.YtfkhjnmgaadomaaDoor.OFnInsRead
