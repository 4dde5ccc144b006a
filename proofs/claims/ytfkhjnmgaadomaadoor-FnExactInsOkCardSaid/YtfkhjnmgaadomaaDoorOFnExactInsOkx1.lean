-- Laid by a program of this session (wip/myprint.py): the kit's print of the functions, contracts of our own among them.
import Derived.Test.YtfkhjnmgaadomaaDoorOFnExactInsOkx0
namespace Go.Proofs.YtfkhjnmgaadomaaDoor.OFnExactInsOk
open Go.RowKit Go.Proofs.YtfkhjnmgaadomaaDoorW.PrintWords Go.Proofs.YtfkhjnmgaadomaaDoorW.PrintLast Go.Proofs.YtfkhjnmgaadomaaDoorW.PrintMore
attribute [local go_sem] max2_int min2_int max_two min_two max_three min_three max_four min_four   -- for this text's walks alone
set_option linter.unusedVariables false
set_option linter.unusedSimpArgs false

/-! ### laws_szIns: function 11 -/
def laws_szIns.f (a0_0 : ByteArray) (a0_1 : Int) (a0_2 : Int) (a1 : Int) : Option (Int):=if (wrap64 (a1 - (a0_0.size : Int))) < 0 then (some (-1)) else (some (wrap64 (a1 - (a0_0.size : Int))))
set_option maxHeartbeats 8000000 in
set_option maxRecDepth 100000 in
theorem laws_szIns.calls (a0_0 : ByteArray) (a0_1 : Int) (a0_2 : Int) (a1 : Int) (r : Int) (w : World) (h : laws_szIns.f a0_0 a0_1 a0_2 a1 = some r) :
  Calls Tryd.prog 11 #[.agg #[.string a0_0,.int .i64 a0_1,.int .i64 a0_2],.int .i64 a1] w fun e w' => e = .returned (.int .i64 r) ∧ Below w.heap.size w w':=by
 have hu23:=Tryd.underlying23
 have HB:=Aside0.mk (Below.refl w.heap.size w)
 have H : (if (wrap64 (a1 - (a0_0.size : Int))) < 0 then (some (-1)) else (some (wrap64 (a1 - (a0_0.size : Int))))) = some r:=h
 clear h
 by_cases c3 : (wrap64 (a1 - (a0_0.size : Int))) < 0
 ·rw [if_pos c3] at H
  have c3b0 : decide ((wrap64 (a1 - (a0_0.size : Int))) < 0) = true:=decide_eq_true c3
  clear c3
  obtain rfl:=Option.some.inj H
  go_enter Tryd.func11,Tryd.ntmps11
  go_wp2_with (first | ((with_reducible refine gate_dst (N:=2) rfl ?_);refine Up.bx 2 23 #[.string a0_0,.int .i64 a0_1,.int .i64 a0_2] ?_;intro gb101 hg w4 hbox hb;have n0_:=Up.BB HB hb;have n1_:=Aside0.mk (hbox);have n2_:=Up.gw hg HB;have n3_:=Up.gw hg HB;clear HB;have HB:=n0_;have BK101:=n1_;have GW101:=n2_;have GE101:=n3_;clear n0_ n1_ n2_ n3_ hb hbox hg;have hcz5_0:=Up.c0 BK101;have hcz5_1:=Up.c1 BK101;have hcz5_2:=Up.c2 BK101;have hfz5_0:=blk_frozen BK101.out 0;have hfz5_1:=blk_frozen BK101.out 1;have hfz5_2:=blk_frozen BK101.out 2))
  go_ret
  exact Up.e1 (Up.Bx HB)
 ·rw [if_neg c3] at H
  have c3b0 : decide ((wrap64 (a1 - (a0_0.size : Int))) < 0) = false:=decide_eq_false c3
  clear c3
  obtain rfl:=Option.some.inj H
  go_enter Tryd.func11,Tryd.ntmps11
  go_wp2_with (first | ((with_reducible refine gate_dst (N:=2) rfl ?_);refine Up.bx 2 23 #[.string a0_0,.int .i64 a0_1,.int .i64 a0_2] ?_;intro gb101 hg w6 hbox hb;have n0_:=Up.BB HB hb;have n1_:=Aside0.mk (hbox);have n2_:=Up.gw hg HB;have n3_:=Up.gw hg HB;clear HB;have HB:=n0_;have BK101:=n1_;have GW101:=n2_;have GE101:=n3_;clear n0_ n1_ n2_ n3_ hb hbox hg;have hcz7_0:=Up.c0 BK101;have hcz7_1:=Up.c1 BK101;have hcz7_2:=Up.c2 BK101;have hfz7_0:=blk_frozen BK101.out 0;have hfz7_1:=blk_frozen BK101.out 1;have hfz7_2:=blk_frozen BK101.out 2))
  go_ret
  exact Up.e1 (Up.Bx HB)

/-! ### spec_l3Table: function 36 -/
def spec_l3Table.f  : Option ((List (S26))):=some (([(⟨(⟨#[110,117,109]⟩ : ByteArray),1000001,0⟩ : S26),(⟨(⟨#[116,114,117,101]⟩ : ByteArray),0,0⟩ : S26),(⟨(⟨#[102,97,108,115,101]⟩ : ByteArray),0,0⟩ : S26),(⟨(⟨#[109,101]⟩ : ByteArray),0,0⟩ : S26),(⟨(⟨#[97,100,100]⟩ : ByteArray),0,0⟩ : S26),(⟨(⟨#[115,117,98]⟩ : ByteArray),0,0⟩ : S26),(⟨(⟨#[109,117,108]⟩ : ByteArray),0,0⟩ : S26),(⟨(⟨#[100,105,118]⟩ : ByteArray),0,0⟩ : S26),(⟨(⟨#[109,111,100]⟩ : ByteArray),0,0⟩ : S26),(⟨(⟨#[108,101,115,115]⟩ : ByteArray),0,0⟩ : S26),(⟨(⟨#[115,97,109,101]⟩ : ByteArray),0,0⟩ : S26),(⟨(⟨#[97,110,100]⟩ : ByteArray),0,0⟩ : S26),(⟨(⟨#[111,114]⟩ : ByteArray),0,0⟩ : S26),(⟨(⟨#[110,111,116]⟩ : ByteArray),0,0⟩ : S26),(⟨(⟨#[99,111,112,121]⟩ : ByteArray),6,0⟩ : S26),(⟨(⟨#[109,111,118,101]⟩ : ByteArray),6,0⟩ : S26),(⟨(⟨#[112,117,116]⟩ : ByteArray),6,0⟩ : S26),(⟨(⟨#[100,114,111,112]⟩ : ByteArray),0,0⟩ : S26),(⟨(⟨#[112,97,99,107]⟩ : ByteArray),3,0⟩ : S26),(⟨(⟨#[117,110,112,97,99,107]⟩ : ByteArray),3,0⟩ : S26),(⟨(⟨#[108,101,110,100]⟩ : ByteArray),6,0⟩ : S26),(⟨(⟨#[108,101,110,100,119]⟩ : ByteArray),6,0⟩ : S26),(⟨(⟨#[102,105,101,108,100]⟩ : ByteArray),3,3⟩ : S26),(⟨(⟨#[114,101,97,100]⟩ : ByteArray),0,0⟩ : S26),(⟨(⟨#[112,101,101,107]⟩ : ByteArray),0,0⟩ : S26),(⟨(⟨#[119,114,105,116,101]⟩ : ByteArray),0,0⟩ : S26),(⟨(⟨#[102,114,101,101,122,101]⟩ : ByteArray),0,0⟩ : S26),(⟨(⟨#[107,101,101,112]⟩ : ByteArray),3,0⟩ : S26),(⟨(⟨#[116,97,107,101]⟩ : ByteArray),3,0⟩ : S26),(⟨(⟨#[104,97,115]⟩ : ByteArray),3,0⟩ : S26),(⟨(⟨#[115,101,101]⟩ : ByteArray),3,0⟩ : S26),(⟨(⟨#[115,101,101,119]⟩ : ByteArray),3,0⟩ : S26),(⟨(⟨#[106,117,109,112]⟩ : ByteArray),40,0⟩ : S26),(⟨(⟨#[122,101,114,111]⟩ : ByteArray),40,0⟩ : S26),(⟨(⟨#[99,97,108,108]⟩ : ByteArray),3,4⟩ : S26),(⟨(⟨#[114,101,116]⟩ : ByteArray),0,0⟩ : S26),(⟨(⟨#[102,97,105,108]⟩ : ByteArray),0,0⟩ : S26)] : List (S26)))
set_option maxHeartbeats 8000000 in
set_option maxRecDepth 100000 in
theorem spec_l3Table.calls  (r : List (S26)) (w : World) (h : spec_l3Table.f  = some r) :
  Calls Tryd.prog 36 #[] w fun e w' => ∃ v0_ : Value,e = .returned (v0_) ∧ Kd.R k26 26 w' w.heap.size (fun _ => True) v0_ r ∧ Below w.heap.size w w':=by
 have hu26:=Tryd.underlying26
 have HB:=Aside0.mk (Below.refl w.heap.size w)
 have H : (some (([(⟨(⟨#[110,117,109]⟩ : ByteArray),1000001,0⟩ : S26),(⟨(⟨#[116,114,117,101]⟩ : ByteArray),0,0⟩ : S26),(⟨(⟨#[102,97,108,115,101]⟩ : ByteArray),0,0⟩ : S26),(⟨(⟨#[109,101]⟩ : ByteArray),0,0⟩ : S26),(⟨(⟨#[97,100,100]⟩ : ByteArray),0,0⟩ : S26),(⟨(⟨#[115,117,98]⟩ : ByteArray),0,0⟩ : S26),(⟨(⟨#[109,117,108]⟩ : ByteArray),0,0⟩ : S26),(⟨(⟨#[100,105,118]⟩ : ByteArray),0,0⟩ : S26),(⟨(⟨#[109,111,100]⟩ : ByteArray),0,0⟩ : S26),(⟨(⟨#[108,101,115,115]⟩ : ByteArray),0,0⟩ : S26),(⟨(⟨#[115,97,109,101]⟩ : ByteArray),0,0⟩ : S26),(⟨(⟨#[97,110,100]⟩ : ByteArray),0,0⟩ : S26),(⟨(⟨#[111,114]⟩ : ByteArray),0,0⟩ : S26),(⟨(⟨#[110,111,116]⟩ : ByteArray),0,0⟩ : S26),(⟨(⟨#[99,111,112,121]⟩ : ByteArray),6,0⟩ : S26),(⟨(⟨#[109,111,118,101]⟩ : ByteArray),6,0⟩ : S26),(⟨(⟨#[112,117,116]⟩ : ByteArray),6,0⟩ : S26),(⟨(⟨#[100,114,111,112]⟩ : ByteArray),0,0⟩ : S26),(⟨(⟨#[112,97,99,107]⟩ : ByteArray),3,0⟩ : S26),(⟨(⟨#[117,110,112,97,99,107]⟩ : ByteArray),3,0⟩ : S26),(⟨(⟨#[108,101,110,100]⟩ : ByteArray),6,0⟩ : S26),(⟨(⟨#[108,101,110,100,119]⟩ : ByteArray),6,0⟩ : S26),(⟨(⟨#[102,105,101,108,100]⟩ : ByteArray),3,3⟩ : S26),(⟨(⟨#[114,101,97,100]⟩ : ByteArray),0,0⟩ : S26),(⟨(⟨#[112,101,101,107]⟩ : ByteArray),0,0⟩ : S26),(⟨(⟨#[119,114,105,116,101]⟩ : ByteArray),0,0⟩ : S26),(⟨(⟨#[102,114,101,101,122,101]⟩ : ByteArray),0,0⟩ : S26),(⟨(⟨#[107,101,101,112]⟩ : ByteArray),3,0⟩ : S26),(⟨(⟨#[116,97,107,101]⟩ : ByteArray),3,0⟩ : S26),(⟨(⟨#[104,97,115]⟩ : ByteArray),3,0⟩ : S26),(⟨(⟨#[115,101,101]⟩ : ByteArray),3,0⟩ : S26),(⟨(⟨#[115,101,101,119]⟩ : ByteArray),3,0⟩ : S26),(⟨(⟨#[106,117,109,112]⟩ : ByteArray),40,0⟩ : S26),(⟨(⟨#[122,101,114,111]⟩ : ByteArray),40,0⟩ : S26),(⟨(⟨#[99,97,108,108]⟩ : ByteArray),3,4⟩ : S26),(⟨(⟨#[114,101,116]⟩ : ByteArray),0,0⟩ : S26),(⟨(⟨#[102,97,105,108]⟩ : ByteArray),0,0⟩ : S26)] : List (S26)))) = some r:=h
 clear h
 obtain ⟨y102,hy102⟩ : ∃ y_ : List (S26),y_ = (([(⟨(⟨#[110,117,109]⟩ : ByteArray),1000001,0⟩ : S26),(⟨(⟨#[116,114,117,101]⟩ : ByteArray),0,0⟩ : S26),(⟨(⟨#[102,97,108,115,101]⟩ : ByteArray),0,0⟩ : S26),(⟨(⟨#[109,101]⟩ : ByteArray),0,0⟩ : S26),(⟨(⟨#[97,100,100]⟩ : ByteArray),0,0⟩ : S26),(⟨(⟨#[115,117,98]⟩ : ByteArray),0,0⟩ : S26),(⟨(⟨#[109,117,108]⟩ : ByteArray),0,0⟩ : S26),(⟨(⟨#[100,105,118]⟩ : ByteArray),0,0⟩ : S26),(⟨(⟨#[109,111,100]⟩ : ByteArray),0,0⟩ : S26),(⟨(⟨#[108,101,115,115]⟩ : ByteArray),0,0⟩ : S26),(⟨(⟨#[115,97,109,101]⟩ : ByteArray),0,0⟩ : S26),(⟨(⟨#[97,110,100]⟩ : ByteArray),0,0⟩ : S26),(⟨(⟨#[111,114]⟩ : ByteArray),0,0⟩ : S26),(⟨(⟨#[110,111,116]⟩ : ByteArray),0,0⟩ : S26),(⟨(⟨#[99,111,112,121]⟩ : ByteArray),6,0⟩ : S26),(⟨(⟨#[109,111,118,101]⟩ : ByteArray),6,0⟩ : S26),(⟨(⟨#[112,117,116]⟩ : ByteArray),6,0⟩ : S26),(⟨(⟨#[100,114,111,112]⟩ : ByteArray),0,0⟩ : S26),(⟨(⟨#[112,97,99,107]⟩ : ByteArray),3,0⟩ : S26),(⟨(⟨#[117,110,112,97,99,107]⟩ : ByteArray),3,0⟩ : S26),(⟨(⟨#[108,101,110,100]⟩ : ByteArray),6,0⟩ : S26),(⟨(⟨#[108,101,110,100,119]⟩ : ByteArray),6,0⟩ : S26),(⟨(⟨#[102,105,101,108,100]⟩ : ByteArray),3,3⟩ : S26),(⟨(⟨#[114,101,97,100]⟩ : ByteArray),0,0⟩ : S26),(⟨(⟨#[112,101,101,107]⟩ : ByteArray),0,0⟩ : S26),(⟨(⟨#[119,114,105,116,101]⟩ : ByteArray),0,0⟩ : S26),(⟨(⟨#[102,114,101,101,122,101]⟩ : ByteArray),0,0⟩ : S26),(⟨(⟨#[107,101,101,112]⟩ : ByteArray),3,0⟩ : S26),(⟨(⟨#[116,97,107,101]⟩ : ByteArray),3,0⟩ : S26),(⟨(⟨#[104,97,115]⟩ : ByteArray),3,0⟩ : S26),(⟨(⟨#[115,101,101]⟩ : ByteArray),3,0⟩ : S26),(⟨(⟨#[115,101,101,119]⟩ : ByteArray),3,0⟩ : S26),(⟨(⟨#[106,117,109,112]⟩ : ByteArray),40,0⟩ : S26),(⟨(⟨#[122,101,114,111]⟩ : ByteArray),40,0⟩ : S26),(⟨(⟨#[99,97,108,108]⟩ : ByteArray),3,4⟩ : S26),(⟨(⟨#[114,101,116]⟩ : ByteArray),0,0⟩ : S26),(⟨(⟨#[102,97,105,108]⟩ : ByteArray),0,0⟩ : S26)] : List (S26))):=⟨_,rfl⟩
 replace H : (some y102) = some r:=by first | (rw [hy102];with_reducible exact H) | (have H2_:=(Option.bind_some _ _).symm.trans H;rw [hy102];with_reducible exact H2_) | (have H2_:=(Option.bind_some _ _).symm.trans H;with_reducible exact H2_) | with_reducible exact H | (rw [hy102];exact H) | exact H
 have Ny102:=Aside0.mk hy102
 clear hy102
 obtain rfl:=Option.some.inj H
 go_enter Tryd.func36,Tryd.ntmps36
 go_wp2_with (first | ((with_reducible refine gate_dst (N:=38) rfl ?_);refine Kd.R_lit k26 _ 26 ?hg (N:=38) ?hd (xs:=([(⟨(⟨#[110,117,109]⟩ : ByteArray),1000001,0⟩ : S26),(⟨(⟨#[116,114,117,101]⟩ : ByteArray),0,0⟩ : S26),(⟨(⟨#[102,97,108,115,101]⟩ : ByteArray),0,0⟩ : S26),(⟨(⟨#[109,101]⟩ : ByteArray),0,0⟩ : S26),(⟨(⟨#[97,100,100]⟩ : ByteArray),0,0⟩ : S26),(⟨(⟨#[115,117,98]⟩ : ByteArray),0,0⟩ : S26),(⟨(⟨#[109,117,108]⟩ : ByteArray),0,0⟩ : S26),(⟨(⟨#[100,105,118]⟩ : ByteArray),0,0⟩ : S26),(⟨(⟨#[109,111,100]⟩ : ByteArray),0,0⟩ : S26),(⟨(⟨#[108,101,115,115]⟩ : ByteArray),0,0⟩ : S26),(⟨(⟨#[115,97,109,101]⟩ : ByteArray),0,0⟩ : S26),(⟨(⟨#[97,110,100]⟩ : ByteArray),0,0⟩ : S26),(⟨(⟨#[111,114]⟩ : ByteArray),0,0⟩ : S26),(⟨(⟨#[110,111,116]⟩ : ByteArray),0,0⟩ : S26),(⟨(⟨#[99,111,112,121]⟩ : ByteArray),6,0⟩ : S26),(⟨(⟨#[109,111,118,101]⟩ : ByteArray),6,0⟩ : S26),(⟨(⟨#[112,117,116]⟩ : ByteArray),6,0⟩ : S26),(⟨(⟨#[100,114,111,112]⟩ : ByteArray),0,0⟩ : S26),(⟨(⟨#[112,97,99,107]⟩ : ByteArray),3,0⟩ : S26),(⟨(⟨#[117,110,112,97,99,107]⟩ : ByteArray),3,0⟩ : S26),(⟨(⟨#[108,101,110,100]⟩ : ByteArray),6,0⟩ : S26),(⟨(⟨#[108,101,110,100,119]⟩ : ByteArray),6,0⟩ : S26),(⟨(⟨#[102,105,101,108,100]⟩ : ByteArray),3,3⟩ : S26),(⟨(⟨#[114,101,97,100]⟩ : ByteArray),0,0⟩ : S26),(⟨(⟨#[112,101,101,107]⟩ : ByteArray),0,0⟩ : S26),(⟨(⟨#[119,114,105,116,101]⟩ : ByteArray),0,0⟩ : S26),(⟨(⟨#[102,114,101,101,122,101]⟩ : ByteArray),0,0⟩ : S26),(⟨(⟨#[107,101,101,112]⟩ : ByteArray),3,0⟩ : S26),(⟨(⟨#[116,97,107,101]⟩ : ByteArray),3,0⟩ : S26),(⟨(⟨#[104,97,115]⟩ : ByteArray),3,0⟩ : S26),(⟨(⟨#[115,101,101]⟩ : ByteArray),3,0⟩ : S26),(⟨(⟨#[115,101,101,119]⟩ : ByteArray),3,0⟩ : S26),(⟨(⟨#[106,117,109,112]⟩ : ByteArray),40,0⟩ : S26),(⟨(⟨#[122,101,114,111]⟩ : ByteArray),40,0⟩ : S26),(⟨(⟨#[99,97,108,108]⟩ : ByteArray),3,4⟩ : S26),(⟨(⟨#[114,101,116]⟩ : ByteArray),0,0⟩ : S26),(⟨(⟨#[102,97,105,108]⟩ : ByteArray),0,0⟩ : S26)] : List (S26))) (inner:=[.string (⟨#[110,117,109]⟩ : ByteArray),.int .i64 1000001,.int .i64 0,.string (⟨#[116,114,117,101]⟩ : ByteArray),.int .i64 0,.int .i64 0,.string (⟨#[102,97,108,115,101]⟩ : ByteArray),.int .i64 0,.int .i64 0,.string (⟨#[109,101]⟩ : ByteArray),.int .i64 0,.int .i64 0,.string (⟨#[97,100,100]⟩ : ByteArray),.int .i64 0,.int .i64 0,.string (⟨#[115,117,98]⟩ : ByteArray),.int .i64 0,.int .i64 0,.string (⟨#[109,117,108]⟩ : ByteArray),.int .i64 0,.int .i64 0,.string (⟨#[100,105,118]⟩ : ByteArray),.int .i64 0,.int .i64 0,.string (⟨#[109,111,100]⟩ : ByteArray),.int .i64 0,.int .i64 0,.string (⟨#[108,101,115,115]⟩ : ByteArray),.int .i64 0,.int .i64 0,.string (⟨#[115,97,109,101]⟩ : ByteArray),.int .i64 0,.int .i64 0,.string (⟨#[97,110,100]⟩ : ByteArray),.int .i64 0,.int .i64 0,.string (⟨#[111,114]⟩ : ByteArray),.int .i64 0,.int .i64 0,.string (⟨#[110,111,116]⟩ : ByteArray),.int .i64 0,.int .i64 0,.string (⟨#[99,111,112,121]⟩ : ByteArray),.int .i64 6,.int .i64 0,.string (⟨#[109,111,118,101]⟩ : ByteArray),.int .i64 6,.int .i64 0,.string (⟨#[112,117,116]⟩ : ByteArray),.int .i64 6,.int .i64 0,.string (⟨#[100,114,111,112]⟩ : ByteArray),.int .i64 0,.int .i64 0,.string (⟨#[112,97,99,107]⟩ : ByteArray),.int .i64 3,.int .i64 0,.string (⟨#[117,110,112,97,99,107]⟩ : ByteArray),.int .i64 3,.int .i64 0,.string (⟨#[108,101,110,100]⟩ : ByteArray),.int .i64 6,.int .i64 0,.string (⟨#[108,101,110,100,119]⟩ : ByteArray),.int .i64 6,.int .i64 0,.string (⟨#[102,105,101,108,100]⟩ : ByteArray),.int .i64 3,.int .i64 3,.string (⟨#[114,101,97,100]⟩ : ByteArray),.int .i64 0,.int .i64 0,.string (⟨#[112,101,101,107]⟩ : ByteArray),.int .i64 0,.int .i64 0,.string (⟨#[119,114,105,116,101]⟩ : ByteArray),.int .i64 0,.int .i64 0,.string (⟨#[102,114,101,101,122,101]⟩ : ByteArray),.int .i64 0,.int .i64 0,.string (⟨#[107,101,101,112]⟩ : ByteArray),.int .i64 3,.int .i64 0,.string (⟨#[116,97,107,101]⟩ : ByteArray),.int .i64 3,.int .i64 0,.string (⟨#[104,97,115]⟩ : ByteArray),.int .i64 3,.int .i64 0,.string (⟨#[115,101,101]⟩ : ByteArray),.int .i64 3,.int .i64 0,.string (⟨#[115,101,101,119]⟩ : ByteArray),.int .i64 3,.int .i64 0,.string (⟨#[106,117,109,112]⟩ : ByteArray),.int .i64 40,.int .i64 0,.string (⟨#[122,101,114,111]⟩ : ByteArray),.int .i64 40,.int .i64 0,.string (⟨#[99,97,108,108]⟩ : ByteArray),.int .i64 3,.int .i64 4,.string (⟨#[114,101,116]⟩ : ByteArray),.int .i64 0,.int .i64 0,.string (⟨#[102,97,105,108]⟩ : ByteArray),.int .i64 0,.int .i64 0]) (ok:=fun _ => True) (okp:=fun _ => True) ?hr ?hp (fun _ hk => hk) trivial (Below.refl _ _) (Nat.le_refl _) (by simp) ?_;(case hd => rfl);(case hg => rfl);(case hr => first | (go_simp;done) | (go_simp;rfl));(case hp => exact (Reps.c3 (show Kd.M k26 _ _ _ (⟨(⟨#[110,117,109]⟩ : ByteArray),1000001,0⟩ : S26) [.string (⟨#[110,117,109]⟩ : ByteArray),.int .i64 1000001,.int .i64 0] from (k26_mkM _ _ _ (⟨(⟨#[110,117,109]⟩ : ByteArray),1000001,0⟩ : S26) )) (Reps.c3 (show Kd.M k26 _ _ _ (⟨(⟨#[116,114,117,101]⟩ : ByteArray),0,0⟩ : S26) [.string (⟨#[116,114,117,101]⟩ : ByteArray),.int .i64 0,.int .i64 0] from (k26_mkM _ _ _ (⟨(⟨#[116,114,117,101]⟩ : ByteArray),0,0⟩ : S26) )) (Reps.c3 (show Kd.M k26 _ _ _ (⟨(⟨#[102,97,108,115,101]⟩ : ByteArray),0,0⟩ : S26) [.string (⟨#[102,97,108,115,101]⟩ : ByteArray),.int .i64 0,.int .i64 0] from (k26_mkM _ _ _ (⟨(⟨#[102,97,108,115,101]⟩ : ByteArray),0,0⟩ : S26) )) (Reps.c3 (show Kd.M k26 _ _ _ (⟨(⟨#[109,101]⟩ : ByteArray),0,0⟩ : S26) [.string (⟨#[109,101]⟩ : ByteArray),.int .i64 0,.int .i64 0] from (k26_mkM _ _ _ (⟨(⟨#[109,101]⟩ : ByteArray),0,0⟩ : S26) )) (Reps.c3 (show Kd.M k26 _ _ _ (⟨(⟨#[97,100,100]⟩ : ByteArray),0,0⟩ : S26) [.string (⟨#[97,100,100]⟩ : ByteArray),.int .i64 0,.int .i64 0] from (k26_mkM _ _ _ (⟨(⟨#[97,100,100]⟩ : ByteArray),0,0⟩ : S26) )) (Reps.c3 (show Kd.M k26 _ _ _ (⟨(⟨#[115,117,98]⟩ : ByteArray),0,0⟩ : S26) [.string (⟨#[115,117,98]⟩ : ByteArray),.int .i64 0,.int .i64 0] from (k26_mkM _ _ _ (⟨(⟨#[115,117,98]⟩ : ByteArray),0,0⟩ : S26) )) (Reps.c3 (show Kd.M k26 _ _ _ (⟨(⟨#[109,117,108]⟩ : ByteArray),0,0⟩ : S26) [.string (⟨#[109,117,108]⟩ : ByteArray),.int .i64 0,.int .i64 0] from (k26_mkM _ _ _ (⟨(⟨#[109,117,108]⟩ : ByteArray),0,0⟩ : S26) )) (Reps.c3 (show Kd.M k26 _ _ _ (⟨(⟨#[100,105,118]⟩ : ByteArray),0,0⟩ : S26) [.string (⟨#[100,105,118]⟩ : ByteArray),.int .i64 0,.int .i64 0] from (k26_mkM _ _ _ (⟨(⟨#[100,105,118]⟩ : ByteArray),0,0⟩ : S26) )) (Reps.c3 (show Kd.M k26 _ _ _ (⟨(⟨#[109,111,100]⟩ : ByteArray),0,0⟩ : S26) [.string (⟨#[109,111,100]⟩ : ByteArray),.int .i64 0,.int .i64 0] from (k26_mkM _ _ _ (⟨(⟨#[109,111,100]⟩ : ByteArray),0,0⟩ : S26) )) (Reps.c3 (show Kd.M k26 _ _ _ (⟨(⟨#[108,101,115,115]⟩ : ByteArray),0,0⟩ : S26) [.string (⟨#[108,101,115,115]⟩ : ByteArray),.int .i64 0,.int .i64 0] from (k26_mkM _ _ _ (⟨(⟨#[108,101,115,115]⟩ : ByteArray),0,0⟩ : S26) )) (Reps.c3 (show Kd.M k26 _ _ _ (⟨(⟨#[115,97,109,101]⟩ : ByteArray),0,0⟩ : S26) [.string (⟨#[115,97,109,101]⟩ : ByteArray),.int .i64 0,.int .i64 0] from (k26_mkM _ _ _ (⟨(⟨#[115,97,109,101]⟩ : ByteArray),0,0⟩ : S26) )) (Reps.c3 (show Kd.M k26 _ _ _ (⟨(⟨#[97,110,100]⟩ : ByteArray),0,0⟩ : S26) [.string (⟨#[97,110,100]⟩ : ByteArray),.int .i64 0,.int .i64 0] from (k26_mkM _ _ _ (⟨(⟨#[97,110,100]⟩ : ByteArray),0,0⟩ : S26) )) (Reps.c3 (show Kd.M k26 _ _ _ (⟨(⟨#[111,114]⟩ : ByteArray),0,0⟩ : S26) [.string (⟨#[111,114]⟩ : ByteArray),.int .i64 0,.int .i64 0] from (k26_mkM _ _ _ (⟨(⟨#[111,114]⟩ : ByteArray),0,0⟩ : S26) )) (Reps.c3 (show Kd.M k26 _ _ _ (⟨(⟨#[110,111,116]⟩ : ByteArray),0,0⟩ : S26) [.string (⟨#[110,111,116]⟩ : ByteArray),.int .i64 0,.int .i64 0] from (k26_mkM _ _ _ (⟨(⟨#[110,111,116]⟩ : ByteArray),0,0⟩ : S26) )) (Reps.c3 (show Kd.M k26 _ _ _ (⟨(⟨#[99,111,112,121]⟩ : ByteArray),6,0⟩ : S26) [.string (⟨#[99,111,112,121]⟩ : ByteArray),.int .i64 6,.int .i64 0] from (k26_mkM _ _ _ (⟨(⟨#[99,111,112,121]⟩ : ByteArray),6,0⟩ : S26) )) (Reps.c3 (show Kd.M k26 _ _ _ (⟨(⟨#[109,111,118,101]⟩ : ByteArray),6,0⟩ : S26) [.string (⟨#[109,111,118,101]⟩ : ByteArray),.int .i64 6,.int .i64 0] from (k26_mkM _ _ _ (⟨(⟨#[109,111,118,101]⟩ : ByteArray),6,0⟩ : S26) )) (Reps.c3 (show Kd.M k26 _ _ _ (⟨(⟨#[112,117,116]⟩ : ByteArray),6,0⟩ : S26) [.string (⟨#[112,117,116]⟩ : ByteArray),.int .i64 6,.int .i64 0] from (k26_mkM _ _ _ (⟨(⟨#[112,117,116]⟩ : ByteArray),6,0⟩ : S26) )) (Reps.c3 (show Kd.M k26 _ _ _ (⟨(⟨#[100,114,111,112]⟩ : ByteArray),0,0⟩ : S26) [.string (⟨#[100,114,111,112]⟩ : ByteArray),.int .i64 0,.int .i64 0] from (k26_mkM _ _ _ (⟨(⟨#[100,114,111,112]⟩ : ByteArray),0,0⟩ : S26) )) (Reps.c3 (show Kd.M k26 _ _ _ (⟨(⟨#[112,97,99,107]⟩ : ByteArray),3,0⟩ : S26) [.string (⟨#[112,97,99,107]⟩ : ByteArray),.int .i64 3,.int .i64 0] from (k26_mkM _ _ _ (⟨(⟨#[112,97,99,107]⟩ : ByteArray),3,0⟩ : S26) )) (Reps.c3 (show Kd.M k26 _ _ _ (⟨(⟨#[117,110,112,97,99,107]⟩ : ByteArray),3,0⟩ : S26) [.string (⟨#[117,110,112,97,99,107]⟩ : ByteArray),.int .i64 3,.int .i64 0] from (k26_mkM _ _ _ (⟨(⟨#[117,110,112,97,99,107]⟩ : ByteArray),3,0⟩ : S26) )) (Reps.c3 (show Kd.M k26 _ _ _ (⟨(⟨#[108,101,110,100]⟩ : ByteArray),6,0⟩ : S26) [.string (⟨#[108,101,110,100]⟩ : ByteArray),.int .i64 6,.int .i64 0] from (k26_mkM _ _ _ (⟨(⟨#[108,101,110,100]⟩ : ByteArray),6,0⟩ : S26) )) (Reps.c3 (show Kd.M k26 _ _ _ (⟨(⟨#[108,101,110,100,119]⟩ : ByteArray),6,0⟩ : S26) [.string (⟨#[108,101,110,100,119]⟩ : ByteArray),.int .i64 6,.int .i64 0] from (k26_mkM _ _ _ (⟨(⟨#[108,101,110,100,119]⟩ : ByteArray),6,0⟩ : S26) )) (Reps.c3 (show Kd.M k26 _ _ _ (⟨(⟨#[102,105,101,108,100]⟩ : ByteArray),3,3⟩ : S26) [.string (⟨#[102,105,101,108,100]⟩ : ByteArray),.int .i64 3,.int .i64 3] from (k26_mkM _ _ _ (⟨(⟨#[102,105,101,108,100]⟩ : ByteArray),3,3⟩ : S26) )) (Reps.c3 (show Kd.M k26 _ _ _ (⟨(⟨#[114,101,97,100]⟩ : ByteArray),0,0⟩ : S26) [.string (⟨#[114,101,97,100]⟩ : ByteArray),.int .i64 0,.int .i64 0] from (k26_mkM _ _ _ (⟨(⟨#[114,101,97,100]⟩ : ByteArray),0,0⟩ : S26) )) (Reps.c3 (show Kd.M k26 _ _ _ (⟨(⟨#[112,101,101,107]⟩ : ByteArray),0,0⟩ : S26) [.string (⟨#[112,101,101,107]⟩ : ByteArray),.int .i64 0,.int .i64 0] from (k26_mkM _ _ _ (⟨(⟨#[112,101,101,107]⟩ : ByteArray),0,0⟩ : S26) )) (Reps.c3 (show Kd.M k26 _ _ _ (⟨(⟨#[119,114,105,116,101]⟩ : ByteArray),0,0⟩ : S26) [.string (⟨#[119,114,105,116,101]⟩ : ByteArray),.int .i64 0,.int .i64 0] from (k26_mkM _ _ _ (⟨(⟨#[119,114,105,116,101]⟩ : ByteArray),0,0⟩ : S26) )) (Reps.c3 (show Kd.M k26 _ _ _ (⟨(⟨#[102,114,101,101,122,101]⟩ : ByteArray),0,0⟩ : S26) [.string (⟨#[102,114,101,101,122,101]⟩ : ByteArray),.int .i64 0,.int .i64 0] from (k26_mkM _ _ _ (⟨(⟨#[102,114,101,101,122,101]⟩ : ByteArray),0,0⟩ : S26) )) (Reps.c3 (show Kd.M k26 _ _ _ (⟨(⟨#[107,101,101,112]⟩ : ByteArray),3,0⟩ : S26) [.string (⟨#[107,101,101,112]⟩ : ByteArray),.int .i64 3,.int .i64 0] from (k26_mkM _ _ _ (⟨(⟨#[107,101,101,112]⟩ : ByteArray),3,0⟩ : S26) )) (Reps.c3 (show Kd.M k26 _ _ _ (⟨(⟨#[116,97,107,101]⟩ : ByteArray),3,0⟩ : S26) [.string (⟨#[116,97,107,101]⟩ : ByteArray),.int .i64 3,.int .i64 0] from (k26_mkM _ _ _ (⟨(⟨#[116,97,107,101]⟩ : ByteArray),3,0⟩ : S26) )) (Reps.c3 (show Kd.M k26 _ _ _ (⟨(⟨#[104,97,115]⟩ : ByteArray),3,0⟩ : S26) [.string (⟨#[104,97,115]⟩ : ByteArray),.int .i64 3,.int .i64 0] from (k26_mkM _ _ _ (⟨(⟨#[104,97,115]⟩ : ByteArray),3,0⟩ : S26) )) (Reps.c3 (show Kd.M k26 _ _ _ (⟨(⟨#[115,101,101]⟩ : ByteArray),3,0⟩ : S26) [.string (⟨#[115,101,101]⟩ : ByteArray),.int .i64 3,.int .i64 0] from (k26_mkM _ _ _ (⟨(⟨#[115,101,101]⟩ : ByteArray),3,0⟩ : S26) )) (Reps.c3 (show Kd.M k26 _ _ _ (⟨(⟨#[115,101,101,119]⟩ : ByteArray),3,0⟩ : S26) [.string (⟨#[115,101,101,119]⟩ : ByteArray),.int .i64 3,.int .i64 0] from (k26_mkM _ _ _ (⟨(⟨#[115,101,101,119]⟩ : ByteArray),3,0⟩ : S26) )) (Reps.c3 (show Kd.M k26 _ _ _ (⟨(⟨#[106,117,109,112]⟩ : ByteArray),40,0⟩ : S26) [.string (⟨#[106,117,109,112]⟩ : ByteArray),.int .i64 40,.int .i64 0] from (k26_mkM _ _ _ (⟨(⟨#[106,117,109,112]⟩ : ByteArray),40,0⟩ : S26) )) (Reps.c3 (show Kd.M k26 _ _ _ (⟨(⟨#[122,101,114,111]⟩ : ByteArray),40,0⟩ : S26) [.string (⟨#[122,101,114,111]⟩ : ByteArray),.int .i64 40,.int .i64 0] from (k26_mkM _ _ _ (⟨(⟨#[122,101,114,111]⟩ : ByteArray),40,0⟩ : S26) )) (Reps.c3 (show Kd.M k26 _ _ _ (⟨(⟨#[99,97,108,108]⟩ : ByteArray),3,4⟩ : S26) [.string (⟨#[99,97,108,108]⟩ : ByteArray),.int .i64 3,.int .i64 4] from (k26_mkM _ _ _ (⟨(⟨#[99,97,108,108]⟩ : ByteArray),3,4⟩ : S26) )) (Reps.c3 (show Kd.M k26 _ _ _ (⟨(⟨#[114,101,116]⟩ : ByteArray),0,0⟩ : S26) [.string (⟨#[114,101,116]⟩ : ByteArray),.int .i64 0,.int .i64 0] from (k26_mkM _ _ _ (⟨(⟨#[114,101,116]⟩ : ByteArray),0,0⟩ : S26) )) (Reps.c3 (show Kd.M k26 _ _ _ (⟨(⟨#[102,97,105,108]⟩ : ByteArray),0,0⟩ : S26) [.string (⟨#[102,97,105,108]⟩ : ByteArray),.int .i64 0,.int .i64 0] from (k26_mkM _ _ _ (⟨(⟨#[102,97,105,108]⟩ : ByteArray),0,0⟩ : S26) )) (Reps.none _ _)))))))))))))))))))))))))))))))))))))));intro v103 w1 ho2 hb hg_ hnew_;clear hg_ hnew_;(first | rw [← Ny102.out] at ho2 | (simp only [Int.reduceToNat] at ho2;rw [← Ny102.out] at ho2));have n0_:=Aside0.mk (Kd.R_lower ho2 (below_size (Up.Bup HB)));have n1_:=Up.BB HB hb;clear HB;have HO104:=n0_;have HB:=n1_;clear n0_ n1_ hb ho2))
 go_ret
 exact ⟨_,by first | rfl | (simp [errW_none,errW_some] <;> rfl) | (simp [*,errW_none,errW_some] <;> rfl),Up.Rup HO104,Up.Bup HB⟩

/-! ### spec_l3Needs: function 30 -/
def spec_l3Needs.l0 : Nat → ByteArray → List (S26) → Int → Option (ByteArray × Int × Int × Bool)
 | 0,_,_,_ => none
 | k + 1,x0,x4,x5 => if x5 < (x4.length : Int) then (if 0 ≤ x5 then (if ((rd_T26 x4 x5).f0).toList = x0.toList then (some ((rd_T26 x4 x5).f0,(rd_T26 x4 x5).f1,(rd_T26 x4 x5).f2,true)) else (spec_l3Needs.l0 k x0 x4 (wrap64 (x5 + 1)))) else (none)) else (some ((⟨#[]⟩ : ByteArray),0,0,false))
def spec_l3Needs.f (k : Nat) (a0 : ByteArray) : Option (ByteArray × Int × Int × Bool):=(spec_l3Table.f).bind fun t106 => (spec_l3Needs.l0 k a0 t106 0)
theorem spec_l3Needs.mono_l : ∀ k,(∀ y0 y1 y2,LeO (spec_l3Needs.l0 k y0 y1 y2) (spec_l3Needs.l0 (k + 1) y0 y1 y2))
 | 0 => fun _ _ _ r h => by simp [spec_l3Needs.l0] at h
 | k + 1 => by
  have ih0:=spec_l3Needs.mono_l k
  ·intro y0 y1 y2
   unfold spec_l3Needs.l0
   repeat' first
   | (with_reducible exact ih0 _ _ _)
   | (with_reducible exact LeO.refl _)
   | (with_reducible exact LeO.none _)
   | (with_reducible refine LeO.ite ?_ ?_)
   | (with_reducible refine LeO.bind ?_ (fun _ => ?_))
   | exact ih0 _ _ _
   | exact LeO.none _
   | refine LeO.ite ?_ ?_
   | refine LeO.bind ?_ (fun _ => ?_)
theorem spec_l3Needs.mono : ∀ a0 k,LeO (spec_l3Needs.f k a0) (spec_l3Needs.f (k + 1) a0):=by
 intro a0 k
 have ih0:=spec_l3Needs.mono_l k
 unfold spec_l3Needs.f
 repeat' first
   | (with_reducible exact ih0 _ _ _)
   | (with_reducible exact LeO.refl _)
   | (with_reducible exact LeO.none _)
   | (with_reducible refine LeO.ite ?_ ?_)
   | (with_reducible refine LeO.bind ?_ (fun _ => ?_))
   | exact ih0 _ _ _
   | exact LeO.none _
   | refine LeO.ite ?_ ?_
   | refine LeO.bind ?_ (fun _ => ?_)
set_option maxHeartbeats 8000000 in
set_option maxRecDepth 100000 in
theorem spec_l3Needs.calls (k : Nat) (a0 : ByteArray) (r1 : ByteArray) (r2 : Int) (r3 : Int) (r4 : Bool) (w : World) (h : spec_l3Needs.f k a0 = some (r1,r2,r3,r4)) :
  Calls Tryd.prog 30 #[.string a0] w fun e w' => e = .returned (.tuple #[.agg #[.string r1,.int .i64 r2,.int .i64 r3],.bool r4]) ∧ Below w.heap.size w w':=by
 have hu26:=Tryd.underlying26
 have HB:=Aside0.mk (Below.refl w.heap.size w)
 have H : ((spec_l3Table.f).bind fun t106 => (spec_l3Needs.l0 k a0 t106 0)) = some (r1,r2,r3,r4):=h
 clear h
 replace H:=Option.bind_eq_some_iff.mp H
 obtain ⟨t106,A20,H⟩:=H
 replace H : (spec_l3Needs.l0 k a0 t106 0) = some (r1,r2,r3,r4):=H
 have A2:=Aside0.mk A20
 clear A20
 have H':=Aside0.mk H
 clear H
 go_enter Tryd.func30,Tryd.ntmps30
 go_wp2_with (first | ((with_reducible refine gate_dst (N:=2) rfl ?_);refine Up.bx 2 26 #[.string (⟨#[]⟩ : ByteArray),.int .i64 0,.int .i64 0] ?_;intro gb105 hg w3 hbox hb;have n0_:=Up.BB HB hb;have n1_:=Aside0.mk (hbox);have n2_:=Up.gw hg HB;have n3_:=Up.gw hg HB;clear HB;have HB:=n0_;have BK105:=n1_;have GW105:=n2_;have GE105:=n3_;clear n0_ n1_ n2_ n3_ hb hbox hg) | ((with_reducible refine gate_callee (f:=36) rfl ?_);refine Up.gl (some 6) Tryd.func36 #[] ?_;(with_reducible refine (spec_l3Table.calls  t106 _ A2.out).mono ?_);rintro e w4 ⟨v107,rfl,ho0,hb⟩;refine ⟨_,rfl,?_⟩;have n0_:=Aside0.mk (Kd.R_lower (Kd.R_newB ho0 (g:=gb105) (o:=.cells #[.string (⟨#[]⟩ : ByteArray),.int .i64 0,.int .i64 0] 26 (0,0)) (Up.Kup BK105)) (below_size (Up.Bx HB)));have n1_:=Up.KB BK105 hb;have n2_:=Aside0.mk (below_step (Up.Bx HB) hb);clear BK105 HB;have HO108:=n0_;have BK105:=n1_;have HB:=n2_;clear n0_ n1_ n2_;(try clear hb);(try clear hb2);(try clear hk);(try clear hi);(try clear ho0)))
 go_loopg [5] k (fun kq v5 w' => ∃ (x5_1 : Int) (x106000_1 : ByteArray) (x106001_1 : Int) (x106002_1 : Int),v5 = .int .i64 x5_1 ∧ Aside0 (spec_l3Needs.l0 kq a0 t106 x5_1 = some (r1,r2,r3,r4)) ∧ Aside0 (kq ≤ k) ∧ Aside0 (Kd.R k26 26 w' w.heap.size (fun k_ => k_ ≠ gb105) v107 t106) ∧ Aside0 (w'.heap[gb105]? = some (.cells #[.string x106000_1,.int .i64 x106001_1,.int .i64 x106002_1] 26 (0,0))) ∧ Aside0 (Below w.heap.size w w'))
 case atStart => exact ⟨(0),((⟨#[]⟩ : ByteArray)),(0),(0),(by first | rfl | (simp;done) | (simp [*];done)),H',⟨Nat.le_refl _⟩,⟨by (with_reducible repeat (first | apply Kd.R_alloc | apply Kd.R_drewN | apply Kd.R_drew));exact Kd.R_mono HO108.out (fun _ hk => hk.2)⟩,⟨by (with_reducible repeat (first | refine blk_drewN ?_ _ | refine blk_drew ?_ | refine blk_alloc ?_ _));exact BK105.out⟩,⟨Up.Bx HB⟩⟩
 case round =>
  clear H'
  try clear p2
  try clear c3
  obtain ⟨x5_1,x106000_1,x106001_1,x106002_1,rfl,HA,HK1,HO_4,BK105,HB⟩:=hrel
  cases gk with
  | zero => exact absurd HA.out (by simp [spec_l3Needs.l0])
  | succ k1 =>
   have H:=HA.out
   clear HA
   simp only [spec_l3Needs.l0] at H
   by_cases c5 : x5_1 < (t106.length : Int)
   ·rw [if_pos c5] at H
    have c5b0 : decide (x5_1 < (t106.length : Int)) = true:=decide_eq_true c5
    clear c5
    by_cases c6 : 0 ≤ x5_1
    ·rw [if_pos c6] at H
     have c6b0 : decide (0 ≤ x5_1) = true:=decide_eq_true c6
     clear c6
     by_cases c7 : ((rd_T26 t106 x5_1).f0).toList = a0.toList
     ·rw [if_pos c7] at H
      have c7b0 : (((rd_T26 t106 x5_1).f0).toList == a0.toList) = true:=beq_iff_eq.mpr c7
      have c7b1 : (((rd_T26 t106 x5_1).f0).toList != a0.toList) = false:=bne_eq_false_iff_eq.mpr c7
      clear c7
      simp only [Option.some.injEq,Prod.mk.injEq] at H
      obtain ⟨rfl,rfl,rfl,rfl⟩:=H
      obtain ⟨Ao8,co8,eo8⟩:=Kd.R_slice HO_4.out
      subst eo8
      have p109 : 0 ≤ (x5_1 : Int):=Up.od
      have q109 : x5_1 < (t106.length : Int):=Up.od
      obtain ⟨ad109,e109,hx109_0,hx109_1,hx109_2⟩:=at_T26 (Kd.R_reads' HO_4.out).2.2 x5_1 p109 q109
      cases e109
      replace p109:=eq_true p109
      replace q109:=eq_true q109
      have p110 : 0 ≤ (x5_1 : Int):=Up.od
      have q110 : x5_1 < (t106.length : Int):=Up.od
      obtain ⟨ad110,e110,hx110_0,hx110_1,hx110_2⟩:=at_T26 (Kd.R_reads' HO_4.out).2.2 x5_1 p110 q110
      obtain rfl : ad109 = ad110:=(by injection e110)
      replace p110:=eq_true p110
      replace q110:=eq_true q110
      have hcz9_0:=Up.c0 BK105
      have hcz9_1:=Up.c1 BK105
      have hcz9_2:=Up.c2 BK105
      have hfz9_0:=blk_frozen BK105.out 0
      have hfz9_1:=blk_frozen BK105.out 1
      have hfz9_2:=blk_frozen BK105.out 2
      go_wp2
      refine bodyPost_ret (results_ct rfl _ _ gb105 26 #[.string ((rd_T26 t106 x5_1).f0),.int .i64 ((rd_T26 t106 x5_1).f1),.int .i64 ((rd_T26 t106 x5_1).f2)] (0,0) _ rfl (Up.Kx BK105) Tryd.underlying26 rfl (by kernel_rfl)) rfl ?_
      exact Up.e1 (Up.Bx HB)
     ·rw [if_neg c7] at H
      have c7b0 : (((rd_T26 t106 x5_1).f0).toList == a0.toList) = false:=beq_eq_false_iff_ne.mpr c7
      have c7b1 : (((rd_T26 t106 x5_1).f0).toList != a0.toList) = true:=bne_iff_ne.mpr c7
      have H':=Aside0.mk H
      clear H
      obtain ⟨Ao10,co10,eo10⟩:=Kd.R_slice HO_4.out
      subst eo10
      have p109 : 0 ≤ (x5_1 : Int):=Up.od
      have q109 : x5_1 < (t106.length : Int):=Up.od
      obtain ⟨ad109,e109,hx109_0,hx109_1,hx109_2⟩:=at_T26 (Kd.R_reads' HO_4.out).2.2 x5_1 p109 q109
      cases e109
      replace p109:=eq_true p109
      replace q109:=eq_true q109
      go_wp2
      go_roundg k1
      case measure => have:=HK1.out;omega
      case rel => exact ⟨(wrap64 (x5_1 + 1)),(x106000_1),(x106001_1),(x106002_1),(by first | rfl | (simp;done) | (simp [*];done)),H',⟨by have:=HK1.out;omega⟩,⟨Up.Rup HO_4⟩,⟨by (with_reducible repeat (first | refine blk_drewN ?_ _ | refine blk_drew ?_ | refine blk_alloc ?_ _));exact BK105.out⟩,⟨Up.Bx HB⟩⟩
    ·rw [if_neg c6] at H
     exact absurd H (by simp)
   ·rw [if_neg c5] at H
    have c5b0 : decide (x5_1 < (t106.length : Int)) = false:=decide_eq_false c5
    clear c5
    simp only [Option.some.injEq,Prod.mk.injEq] at H
    obtain ⟨rfl,rfl,rfl,rfl⟩:=H
    obtain ⟨Ao11,co11,eo11⟩:=Kd.R_slice HO_4.out
    subst eo11
    have hcz12_0:=Up.c0 BK105
    have hcz12_1:=Up.c1 BK105
    have hcz12_2:=Up.c2 BK105
    have hfz12_0:=blk_frozen BK105.out 0
    have hfz12_1:=blk_frozen BK105.out 1
    have hfz12_2:=blk_frozen BK105.out 2
    go_wp2
    refine bodyPost_ret (results_ct rfl _ _ gb105 26 #[.string (⟨#[]⟩ : ByteArray),.int .i64 0,.int .i64 0] (0,0) _ rfl (Up.Kx BK105) Tryd.underlying26 rfl (by kernel_rfl)) rfl ?_
    exact Up.e1 (Up.Bx HB)

/-! ### spec_l6In: function 50 -/
def spec_l6In.f (a0 : Int) (a1 : Int) (a2 : Int) : Option (Bool):=if a0 ≥ a1 then (some (decide (a0 ≤ a2))) else (some false)
set_option maxHeartbeats 8000000 in
set_option maxRecDepth 100000 in
theorem spec_l6In.calls (a0 : Int) (a1 : Int) (a2 : Int) (r : Bool) (w : World) (h : spec_l6In.f a0 a1 a2 = some r) :
  Calls Tryd.prog 50 #[.int .i64 a0,.int .i64 a1,.int .i64 a2] w fun e w' => e = .returned (.bool r) ∧ Drawn0 w w':=by
 have H : (if a0 ≥ a1 then (some (decide (a0 ≤ a2))) else (some false)) = some r:=h
 clear h
 by_cases c4 : a0 ≥ a1
 ·rw [if_pos c4] at H
  have c4b0 : decide (a1 ≤ a0) = true:=decide_eq_true c4
  clear c4
  obtain rfl:=Option.some.inj H
  go_enter Tryd.func50,Tryd.ntmps50
  go_wp2
  go_ret
  exact Up.e2
 ·rw [if_neg c4] at H
  have c4b0 : decide (a1 ≤ a0) = false:=decide_eq_false c4
  clear c4
  obtain rfl:=Option.some.inj H
  go_enter Tryd.func50,Tryd.ntmps50
  go_wp2
  go_ret
  exact Up.e2

/-! ### spec_l3Fits: function 31 -/
def spec_l3Fits.f (a0 : Int) (a1 : Int) : Option (Bool):=if a1 = 0 then (some (a0 == 0)) else ((spec_l6In.f a0 0 (wrap64 (a1 - 1))).bind fun t111 => (some t111))
set_option maxHeartbeats 8000000 in
set_option maxRecDepth 100000 in
theorem spec_l3Fits.calls (a0 : Int) (a1 : Int) (r : Bool) (w : World) (h : spec_l3Fits.f a0 a1 = some r) :
  Calls Tryd.prog 31 #[.int .i64 a0,.int .i64 a1] w fun e w' => e = .returned (.bool r) ∧ Drawn0 w w':=by
 have H : (if a1 = 0 then (some (a0 == 0)) else ((spec_l6In.f a0 0 (wrap64 (a1 - 1))).bind fun t111 => (some t111))) = some r:=h
 clear h
 by_cases c3 : a1 = 0
 ·rw [if_pos c3] at H
  have c3b0 : (a1 == 0) = true:=beq_iff_eq.mpr c3
  have c3b1 : (a1 != 0) = false:=bne_eq_false_iff_eq.mpr c3
  clear c3
  obtain rfl:=Option.some.inj H
  go_enter Tryd.func31,Tryd.ntmps31
  go_wp2
  go_ret
  exact Up.e2
 ·rw [if_neg c3] at H
  have c3b0 : (a1 == 0) = false:=beq_eq_false_iff_ne.mpr c3
  have c3b1 : (a1 != 0) = true:=bne_iff_ne.mpr c3
  replace H:=Option.bind_eq_some_iff.mp H
  obtain ⟨t111,A40,H⟩:=H
  replace H : (some t111) = some r:=H
  have A4:=Aside0.mk A40
  clear A40
  obtain rfl:=Option.some.inj H
  go_enter Tryd.func31,Tryd.ntmps31
  go_wp2_with (first | ((with_reducible refine gate_callee (f:=50) rfl ?_);refine Up.gl (some 12) Tryd.func50 #[.int .i64 a0,.int .i64 0,.int .i64 (wrap64 (a1 - 1))] ?_;(with_reducible refine (spec_l6In.calls a0 0 (wrap64 (a1 - 1)) t111 _ A4.out).mono ?_);rintro e w' ⟨rfl,⟨nd,rfl⟩⟩;refine ⟨_,rfl,?_⟩))
  go_ret
  exact Up.e2

/-! ### spec_InsOk: function 12 -/
def spec_InsOk.f (k : Nat) (a0_0 : ByteArray) (a0_1 : Int) (a0_2 : Int) : Option (Bool):=(spec_l3Needs.f k a0_0).bind fun bt113 => (if bt113.2.2.2 = true then ((spec_l3Fits.f a0_1 bt113.2.1).bind fun t118 => (if t118 = true then ((spec_l3Fits.f a0_2 bt113.2.2.1).bind fun t119 => (some t119)) else (some false))) else (some false))
theorem spec_InsOk.mono : ∀ a0 a1 a2 k,LeO (spec_InsOk.f k a0 a1 a2) (spec_InsOk.f (k + 1) a0 a1 a2):=by
 intro a0 a1 a2 k
 unfold spec_InsOk.f
 repeat' first
   | (with_reducible exact spec_l3Needs.mono _ _)
   | (with_reducible exact LeO.refl _)
   | (with_reducible exact LeO.none _)
   | (with_reducible refine LeO.ite ?_ ?_)
   | (with_reducible refine LeO.bind ?_ (fun _ => ?_))
   | exact spec_l3Needs.mono _ _
   | exact LeO.none _
   | refine LeO.ite ?_ ?_
   | refine LeO.bind ?_ (fun _ => ?_)
set_option maxHeartbeats 8000000 in
set_option maxRecDepth 100000 in
theorem spec_InsOk.calls (k : Nat) (a0_0 : ByteArray) (a0_1 : Int) (a0_2 : Int) (r : Bool) (w : World) (h : spec_InsOk.f k a0_0 a0_1 a0_2 = some r) :
  Calls Tryd.prog 12 #[.agg #[.string a0_0,.int .i64 a0_1,.int .i64 a0_2]] w fun e w' => e = .returned (.bool r) ∧ Below w.heap.size w w':=by
 have hu26:=Tryd.underlying26
 have HB:=Aside0.mk (Below.refl w.heap.size w)
 have H : ((spec_l3Needs.f k a0_0).bind fun bt113 => (if bt113.2.2.2 = true then ((spec_l3Fits.f a0_1 bt113.2.1).bind fun t118 => (if t118 = true then ((spec_l3Fits.f a0_2 bt113.2.2.1).bind fun t119 => (some t119)) else (some false))) else (some false))) = some r:=h
 clear h
 replace H:=Option.bind_eq_some_iff.mp H
 obtain ⟨⟨t113,t114,t115,t116⟩,A20,H⟩:=H
 replace H : (if t116 = true then ((spec_l3Fits.f a0_1 t114).bind fun t118 => (if t118 = true then ((spec_l3Fits.f a0_2 t115).bind fun t119 => (some t119)) else (some false))) else (some false)) = some r:=H
 have A2:=Aside0.mk A20
 clear A20
 by_cases c3 : t116 = true
 ·subst c3
  have H1 : ((spec_l3Fits.f a0_1 t114).bind fun t118 => (if t118 = true then ((spec_l3Fits.f a0_2 t115).bind fun t119 => (some t119)) else (some false))) = some r:=by rw [if_pos rfl] at H;exact H
  clear H
  have H:=H1
  clear H1
  replace H:=Option.bind_eq_some_iff.mp H
  obtain ⟨t118,A40,H⟩:=H
  replace H : (if t118 = true then ((spec_l3Fits.f a0_2 t115).bind fun t119 => (some t119)) else (some false)) = some r:=H
  have A4:=Aside0.mk A40
  clear A40
  by_cases c5 : t118 = true
  ·subst c5
   have H1 : ((spec_l3Fits.f a0_2 t115).bind fun t119 => (some t119)) = some r:=by rw [if_pos rfl] at H;exact H
   clear H
   have H:=H1
   clear H1
   replace H:=Option.bind_eq_some_iff.mp H
   obtain ⟨t119,A60,H⟩:=H
   replace H : (some t119) = some r:=H
   have A6:=Aside0.mk A60
   clear A60
   obtain rfl:=Option.some.inj H
   go_enter Tryd.func12,Tryd.ntmps12
   go_wp2_with (first | ((with_reducible refine gate_dst (N:=1) rfl ?_);refine Up.bx 1 26 #[.string a0_0,.int .i64 a0_1,.int .i64 a0_2] ?_;intro gb112 hg w7 hbox hb;have n0_:=Up.BB HB hb;have n1_:=Aside0.mk (hbox);have n2_:=Up.gw hg HB;have n3_:=Up.gw hg HB;clear HB;have HB:=n0_;have BK112:=n1_;have GW112:=n2_;have GE112:=n3_;clear n0_ n1_ n2_ n3_ hb hbox hg;have hcz8_0:=Up.c0 BK112;have hcz8_1:=Up.c1 BK112;have hcz8_2:=Up.c2 BK112;have hfz8_0:=blk_frozen BK112.out 0;have hfz8_1:=blk_frozen BK112.out 1;have hfz8_2:=blk_frozen BK112.out 2) | ((with_reducible refine gate_callee (f:=30) rfl ?_);refine Up.gl (some 8) Tryd.func30 #[.string a0_0] ?_;(with_reducible refine (spec_l3Needs.calls k a0_0 t113 t114 t115 true _ A2.out).mono ?_);rintro e w9 ⟨rfl,hb⟩;refine ⟨_,rfl,?_⟩;have n0_:=Up.KB BK112 hb;have n1_:=Aside0.mk (below_step (Up.Bx HB) hb);clear BK112 HB;have BK112:=n0_;have HB:=n1_;clear n0_ n1_;(try clear hb);(try clear hb2);(try clear hk);(try clear hi)) | ((with_reducible refine gate_dst (N:=3) rfl ?_);refine Up.bx 3 26 #[.string (⟨#[]⟩ : ByteArray),.int .i64 0,.int .i64 0] ?_;intro gb117 hg w10 hbox hb;have n0_:=Up.KB BK112 hb;have n1_:=Aside0.mk (below_step (Up.Bx HB) hb);have n2_:=Aside0.mk (hbox);have n3_:=Up.gw hg HB;have n4_:=Up.gw hg HB;have n5_:=Up.nl hg BK112;have n6_:=Up.ng hg BK112;clear BK112 HB;have BK112:=n0_;have HB:=n1_;have BK117:=n2_;have GW117:=n3_;have GE117:=n4_;have NB112_117:=n5_;have NB117_112:=n6_;clear n0_ n1_ n2_ n3_ n4_ n5_ n6_ hb hbox hg;have hnb11:=NB117_112.out;have hnc11:=NB112_117.out;have hcz12_0:=Up.c0 BK117;have hcz12_1:=Up.c1 BK117;have hcz12_2:=Up.c2 BK117;have hfz12_0:=blk_frozen BK117.out 0;have hfz12_1:=blk_frozen BK117.out 1;have hfz12_2:=blk_frozen BK117.out 2;have hcz13_0:=Up.c0 BK112;have hcz13_1:=Up.c1 BK112;have hcz13_2:=Up.c2 BK112;have hfz13_0:=blk_frozen BK112.out 0;have hfz13_1:=blk_frozen BK112.out 1;have hfz13_2:=blk_frozen BK112.out 2) | (go_at_call 31;(with_reducible refine (spec_l3Fits.calls a0_1 t114 true _ A4.out).mono ?_);rintro e w' ⟨rfl,⟨nd,rfl⟩⟩) | (go_at_call 31;(with_reducible refine (spec_l3Fits.calls a0_2 t115 t119 _ A6.out).mono ?_);rintro e w' ⟨rfl,⟨nd,rfl⟩⟩))
   go_ret
   exact Up.e1 (Up.Bx HB)
  ·replace c5:=Bool.eq_false_iff.mpr c5
   subst c5
   have H1 : (some false) = some r:=by rw [if_neg (show ¬ (false = true) by decide)] at H;exact H
   clear H
   have H:=H1
   clear H1
   obtain rfl:=Option.some.inj H
   go_enter Tryd.func12,Tryd.ntmps12
   go_wp2_with (first | ((with_reducible refine gate_dst (N:=1) rfl ?_);refine Up.bx 1 26 #[.string a0_0,.int .i64 a0_1,.int .i64 a0_2] ?_;intro gb112 hg w14 hbox hb;have n0_:=Up.BB HB hb;have n1_:=Aside0.mk (hbox);have n2_:=Up.gw hg HB;have n3_:=Up.gw hg HB;clear HB;have HB:=n0_;have BK112:=n1_;have GW112:=n2_;have GE112:=n3_;clear n0_ n1_ n2_ n3_ hb hbox hg;have hcz15_0:=Up.c0 BK112;have hcz15_1:=Up.c1 BK112;have hcz15_2:=Up.c2 BK112;have hfz15_0:=blk_frozen BK112.out 0;have hfz15_1:=blk_frozen BK112.out 1;have hfz15_2:=blk_frozen BK112.out 2) | ((with_reducible refine gate_callee (f:=30) rfl ?_);refine Up.gl (some 8) Tryd.func30 #[.string a0_0] ?_;(with_reducible refine (spec_l3Needs.calls k a0_0 t113 t114 t115 true _ A2.out).mono ?_);rintro e w16 ⟨rfl,hb⟩;refine ⟨_,rfl,?_⟩;have n0_:=Up.KB BK112 hb;have n1_:=Aside0.mk (below_step (Up.Bx HB) hb);clear BK112 HB;have BK112:=n0_;have HB:=n1_;clear n0_ n1_;(try clear hb);(try clear hb2);(try clear hk);(try clear hi)) | ((with_reducible refine gate_dst (N:=3) rfl ?_);refine Up.bx 3 26 #[.string (⟨#[]⟩ : ByteArray),.int .i64 0,.int .i64 0] ?_;intro gb117 hg w17 hbox hb;have n0_:=Up.KB BK112 hb;have n1_:=Aside0.mk (below_step (Up.Bx HB) hb);have n2_:=Aside0.mk (hbox);have n3_:=Up.gw hg HB;have n4_:=Up.gw hg HB;have n5_:=Up.nl hg BK112;have n6_:=Up.ng hg BK112;clear BK112 HB;have BK112:=n0_;have HB:=n1_;have BK117:=n2_;have GW117:=n3_;have GE117:=n4_;have NB112_117:=n5_;have NB117_112:=n6_;clear n0_ n1_ n2_ n3_ n4_ n5_ n6_ hb hbox hg;have hnb18:=NB117_112.out;have hnc18:=NB112_117.out;have hcz19_0:=Up.c0 BK117;have hcz19_1:=Up.c1 BK117;have hcz19_2:=Up.c2 BK117;have hfz19_0:=blk_frozen BK117.out 0;have hfz19_1:=blk_frozen BK117.out 1;have hfz19_2:=blk_frozen BK117.out 2;have hcz20_0:=Up.c0 BK112;have hcz20_1:=Up.c1 BK112;have hcz20_2:=Up.c2 BK112;have hfz20_0:=blk_frozen BK112.out 0;have hfz20_1:=blk_frozen BK112.out 1;have hfz20_2:=blk_frozen BK112.out 2) | (go_at_call 31;(with_reducible refine (spec_l3Fits.calls a0_1 t114 false _ A4.out).mono ?_);rintro e w' ⟨rfl,⟨nd,rfl⟩⟩))
   go_ret
   exact Up.e1 (Up.Bx HB)
 ·replace c3:=Bool.eq_false_iff.mpr c3
  subst c3
  have H1 : (some false) = some r:=by rw [if_neg (show ¬ (false = true) by decide)] at H;exact H
  clear H
  have H:=H1
  clear H1
  obtain rfl:=Option.some.inj H
  go_enter Tryd.func12,Tryd.ntmps12
  go_wp2_with (first | ((with_reducible refine gate_dst (N:=1) rfl ?_);refine Up.bx 1 26 #[.string a0_0,.int .i64 a0_1,.int .i64 a0_2] ?_;intro gb112 hg w21 hbox hb;have n0_:=Up.BB HB hb;have n1_:=Aside0.mk (hbox);have n2_:=Up.gw hg HB;have n3_:=Up.gw hg HB;clear HB;have HB:=n0_;have BK112:=n1_;have GW112:=n2_;have GE112:=n3_;clear n0_ n1_ n2_ n3_ hb hbox hg;have hcz22_0:=Up.c0 BK112;have hcz22_1:=Up.c1 BK112;have hcz22_2:=Up.c2 BK112;have hfz22_0:=blk_frozen BK112.out 0;have hfz22_1:=blk_frozen BK112.out 1;have hfz22_2:=blk_frozen BK112.out 2) | ((with_reducible refine gate_callee (f:=30) rfl ?_);refine Up.gl (some 8) Tryd.func30 #[.string a0_0] ?_;(with_reducible refine (spec_l3Needs.calls k a0_0 t113 t114 t115 false _ A2.out).mono ?_);rintro e w23 ⟨rfl,hb⟩;refine ⟨_,rfl,?_⟩;have n0_:=Up.KB BK112 hb;have n1_:=Aside0.mk (below_step (Up.Bx HB) hb);clear BK112 HB;have BK112:=n0_;have HB:=n1_;clear n0_ n1_;(try clear hb);(try clear hb2);(try clear hk);(try clear hi)) | ((with_reducible refine gate_dst (N:=3) rfl ?_);refine Up.bx 3 26 #[.string (⟨#[]⟩ : ByteArray),.int .i64 0,.int .i64 0] ?_;intro gb117 hg w24 hbox hb;have n0_:=Up.KB BK112 hb;have n1_:=Aside0.mk (below_step (Up.Bx HB) hb);have n2_:=Aside0.mk (hbox);have n3_:=Up.gw hg HB;have n4_:=Up.gw hg HB;have n5_:=Up.nl hg BK112;have n6_:=Up.ng hg BK112;clear BK112 HB;have BK112:=n0_;have HB:=n1_;have BK117:=n2_;have GW117:=n3_;have GE117:=n4_;have NB112_117:=n5_;have NB117_112:=n6_;clear n0_ n1_ n2_ n3_ n4_ n5_ n6_ hb hbox hg;have hnb25:=NB117_112.out;have hnc25:=NB112_117.out;have hcz26_0:=Up.c0 BK117;have hcz26_1:=Up.c1 BK117;have hcz26_2:=Up.c2 BK117;have hfz26_0:=blk_frozen BK117.out 0;have hfz26_1:=blk_frozen BK117.out 1;have hfz26_2:=blk_frozen BK117.out 2))
  go_ret
  exact Up.e1 (Up.Bx HB)

/-! ### laws_toIns: function 13 -/
def laws_toIns.f (a0_0 : ByteArray) (a0_1 : Int) (a0_2 : Int) : Option (ByteArray × Int × Int):=some (a0_0,a0_1,a0_2)
set_option maxHeartbeats 8000000 in
set_option maxRecDepth 100000 in
theorem laws_toIns.calls (a0_0 : ByteArray) (a0_1 : Int) (a0_2 : Int) (r1 : ByteArray) (r2 : Int) (r3 : Int) (w : World) (h : laws_toIns.f a0_0 a0_1 a0_2 = some (r1,r2,r3)) :
  Calls Tryd.prog 13 #[.agg #[.string a0_0,.int .i64 a0_1,.int .i64 a0_2]] w fun e w' => e = .returned (.agg #[.string r1,.int .i64 r2,.int .i64 r3]) ∧ Below w.heap.size w w':=by
 have hu23:=Tryd.underlying23
 have hu26:=Tryd.underlying26
 have HB:=Aside0.mk (Below.refl w.heap.size w)
 have H : (some (a0_0,a0_1,a0_2)) = some (r1,r2,r3):=h
 clear h
 simp only [Option.some.injEq,Prod.mk.injEq] at H
 obtain ⟨rfl,rfl,rfl⟩:=H
 go_enter Tryd.func13,Tryd.ntmps13
 go_wp2_with (first | ((with_reducible refine gate_dst (N:=1) rfl ?_);refine Up.bx 1 23 #[.string a0_0,.int .i64 a0_1,.int .i64 a0_2] ?_;intro gb120 hg w2 hbox hb;have n0_:=Up.BB HB hb;have n1_:=Aside0.mk (hbox);have n2_:=Up.gw hg HB;have n3_:=Up.gw hg HB;clear HB;have HB:=n0_;have BK120:=n1_;have GW120:=n2_;have GE120:=n3_;clear n0_ n1_ n2_ n3_ hb hbox hg) | ((with_reducible refine gate_dst (N:=2) rfl ?_);refine Up.bx 2 26 #[.string (⟨#[]⟩ : ByteArray),.int .i64 0,.int .i64 0] ?_;intro gb121 hg w3 hbox hb;have n0_:=Up.KB BK120 hb;have n1_:=Aside0.mk (below_step (Up.Bx HB) hb);have n2_:=Aside0.mk (hbox);have n3_:=Up.gw hg HB;have n4_:=Up.gw hg HB;have n5_:=Up.nl hg BK120;have n6_:=Up.ng hg BK120;clear BK120 HB;have BK120:=n0_;have HB:=n1_;have BK121:=n2_;have GW121:=n3_;have GE121:=n4_;have NB120_121:=n5_;have NB121_120:=n6_;clear n0_ n1_ n2_ n3_ n4_ n5_ n6_ hb hbox hg) | ((with_reducible refine gate_dst (N:=3) rfl ?_);refine Up.bx 3 26 #[.string (⟨#[]⟩ : ByteArray),.int .i64 0,.int .i64 0] ?_;intro gb122 hg w4 hbox hb;have n0_:=Up.KB BK120 hb;have n1_:=Up.KB BK121 hb;have n2_:=Aside0.mk (below_step (Up.Bx HB) hb);have n3_:=Aside0.mk (hbox);have n4_:=Up.gw hg HB;have n5_:=Up.gw hg HB;have n6_:=Up.nl hg BK120;have n7_:=Up.ng hg BK120;have n8_:=Up.nl hg BK121;have n9_:=Up.ng hg BK121;clear BK120 BK121 HB;have BK120:=n0_;have BK121:=n1_;have HB:=n2_;have BK122:=n3_;have GW122:=n4_;have GE122:=n5_;have NB120_122:=n6_;have NB122_120:=n7_;have NB121_122:=n8_;have NB122_121:=n9_;clear n0_ n1_ n2_ n3_ n4_ n5_ n6_ n7_ n8_ n9_ hb hbox hg;have hnb5:=NB120_121.out;have hnc5:=NB121_120.out;have hnb6:=NB120_122.out;have hnc6:=NB122_120.out;have hcz7_0:=Up.c0 BK120;have hcz7_1:=Up.c1 BK120;have hcz7_2:=Up.c2 BK120;have hfz7_0:=blk_frozen BK120.out 0;have hfz7_1:=blk_frozen BK120.out 1;have hfz7_2:=blk_frozen BK120.out 2;have hnb8:=NB122_121.out;have hnc8:=NB121_122.out;have hcz9_0:=Up.c0 BK122;have hcz9_1:=Up.c1 BK122;have hcz9_2:=Up.c2 BK122;have hfz9_0:=blk_frozen BK122.out 0;have hfz9_1:=blk_frozen BK122.out 1;have hfz9_2:=blk_frozen BK122.out 2;have hcz10_0:=Up.c0 BK121;have hcz10_1:=Up.c1 BK121;have hcz10_2:=Up.c2 BK121;have hfz10_0:=blk_frozen BK121.out 0;have hfz10_1:=blk_frozen BK121.out 1;have hfz10_2:=blk_frozen BK121.out 2))
 refine bodyPost_ret (results_cell_row rfl _ _ gb121 26 #[.string a0_0,.int .i64 a0_1,.int .i64 a0_2] (0,0) _ rfl (Up.Kx BK121) Tryd.underlying26 rfl (by kernel_rfl)) rfl ?_
 exact Up.e1 (Up.Bx HB)

-- NOT PRINTED: function 54 (strings_FieldsFunc)

-- NOT PRINTED: function 66 (unicode_is16)

-- NOT PRINTED: function 67 (unicode_is32)

-- NOT PRINTED: function 60 (unicode_isExcludingLatin)

-- NOT PRINTED: function 55 (unicode_IsSpace)

/-! ### strings_Fields: function 51 -/
/-- Go's table of the blanks among the first signs stands in its variable. -/
structure Tab (w : World) : Prop where
  mk :: (out : Lib.TabIs Tryd.prog w "strings.asciiSpace" .u8 Lib.asciiSpaceTab)
theorem Tab.below {w W : World} (h : Tab w) (hb : Below w.heap.size w W) : Tab W := by
  refine ⟨?_⟩
  have h := h.out
  unfold Lib.TabIs World.var? at h ⊢
  cases hg : Tryd.prog.globalNamed "strings.asciiSpace" with
  | none => rw [hg] at h; cases h
  | some g =>
    rw [hg] at h
    simp only [Option.bind_some] at h ⊢
    have hlt : g < w.heap.size := by
      rcases Nat.lt_or_ge g w.heap.size with h' | h'
      · exact h'
      · rw [Array.getElem?_eq_none h'] at h; cases h
    rw [hb.block g hlt]
    exact h
def asciiB (s : ByteArray) : Bool := s.data.toList.all fun b => decide (b.toNat < 128)
def strings_Fields.f (s : ByteArray) : Option (List ByteArray) := if s.size < 1000000 ∧ asciiB s = true ∧ (Lib.fields s.data.toList).length ≤ 1000000 then some ((Lib.fields s.data.toList).map fun l => ⟨l.toArray⟩) else none
theorem strings_Fields.calls (a0 : ByteArray) (r : List ByteArray) (w : World) (hT_ : Tab w) (h : strings_Fields.f a0 = some r) :
    Calls Tryd.prog 51 #[.string a0] w fun e w' => ∃ v0_ : Value, e = .returned (v0_) ∧ Kd.R Kd.string 9 w' w.heap.size (fun _ => True) v0_ r ∧ Below w.heap.size w w' := by
  unfold strings_Fields.f at h
  split at h
  · rename_i hc
    obtain rfl := Option.some.inj h
    have ha : ∀ (j : Nat) b, a0.data.toList[j]? = some b → b.toNat < 128 := by
      intro j b hb
      have h2 := List.all_eq_true.1 hc.2.1 b (List.mem_of_getElem? hb)
      exact of_decide_eq_true h2
    refine (Tryd.strings_Fields_laid a0 w (by omega) ha hT_.out).mono ?_
    rintro e w' ⟨rfl, rfl⟩
    refine ⟨_, rfl, Kd.R_of_own ?_ (fun _ _ => trivial), below_alloc (Below.refl _ _) _⟩
    have hl := hc.2.2
    refine ⟨by simp [encs_length], .inr ⟨w.heap.size, _, _, by rw [List.length_map], Nat.le_refl _, heap_alloc_new w _, Nat.le_refl _, ?_, ?_, ?_⟩⟩
    · have hm : (1000000 : Nat) ≤ maxLen := by decide
      exact Nat.le_trans (by simpa using hl) hm
    · simp
    · rw [List.take_of_length_le (by simp)]
      simp [encs]
  · cases h

/-! ### impl_insForms: function 34 -/
mutual
def impl_insForms.l0 : Nat → List (S46) → List ByteArray → Int → Int → Option ((List (S46)))
 | 0,_,_,_,_ => none
 | k + 1,x1,x8,x9,x10 => if x10 < x9 then (if 0 ≤ x10 then (if x10 < (x8.length : Int) then (if x1.length < 4398046511104 then (impl_insForms.l0 k (x1 ++ [(⟨rdOf ByteArray.empty x8 x10,0,0⟩ : S46)]) x8 x9 (wrap64 (x10 + 1))) else (none)) else (none)) else (none)) else ((some (([(⟨(⟨#[99,111,112,121]⟩ : ByteArray),6,0⟩ : S46),(⟨(⟨#[109,111,118,101]⟩ : ByteArray),6,0⟩ : S46),(⟨(⟨#[112,117,116]⟩ : ByteArray),6,0⟩ : S46),(⟨(⟨#[100,114,111,112]⟩ : ByteArray),0,0⟩ : S46)] : List (S46)) : List (S46))).bind fun y136 => (if x1.length + y136.length < 4398046511104 then ((some (x1 ++ y136 : List (S46))).bind fun y139 => ((some (([(⟨(⟨#[112,97,99,107]⟩ : ByteArray),3,0⟩ : S46),(⟨(⟨#[117,110,112,97,99,107]⟩ : ByteArray),3,0⟩ : S46),(⟨(⟨#[108,101,110,100]⟩ : ByteArray),6,0⟩ : S46),(⟨(⟨#[108,101,110,100,119]⟩ : ByteArray),6,0⟩ : S46),(⟨(⟨#[102,105,101,108,100]⟩ : ByteArray),3,3⟩ : S46)] : List (S46)) : List (S46))).bind fun y142 => (if y139.length + y142.length < 4398046511104 then ((some (y139 ++ y142 : List (S46))).bind fun y145 => ((some (([(⟨(⟨#[114,101,97,100]⟩ : ByteArray),0,0⟩ : S46),(⟨(⟨#[112,101,101,107]⟩ : ByteArray),0,0⟩ : S46),(⟨(⟨#[119,114,105,116,101]⟩ : ByteArray),0,0⟩ : S46),(⟨(⟨#[102,114,101,101,122,101]⟩ : ByteArray),0,0⟩ : S46)] : List (S46)) : List (S46))).bind fun y148 => (if y145.length + y148.length < 4398046511104 then ((strings_Fields.f (⟨#[107,101,101,112,32,116,97,107,101,32,104,97,115,32,115,101,101,32,115,101,101,119]⟩ : ByteArray)).bind fun t154 => (impl_insForms.l1 k (y145 ++ y148) t154 (t154.length : Int) 0)) else (none)))) else (none)))) else (none)))
def impl_insForms.l1 : Nat → List (S46) → List ByteArray → Int → Int → Option ((List (S46)))
 | 0,_,_,_,_ => none
 | k + 1,x1,x42,x43,x44 => if x44 < x43 then (if 0 ≤ x44 then (if x44 < (x42.length : Int) then (if x1.length < 4398046511104 then (impl_insForms.l1 k (x1 ++ [(⟨rdOf ByteArray.empty x42 x44,3,0⟩ : S46)]) x42 x43 (wrap64 (x44 + 1))) else (none)) else (none)) else (none)) else ((some (([(⟨(⟨#[106,117,109,112]⟩ : ByteArray),40,0⟩ : S46),(⟨(⟨#[122,101,114,111]⟩ : ByteArray),40,0⟩ : S46),(⟨(⟨#[99,97,108,108]⟩ : ByteArray),3,4⟩ : S46),(⟨(⟨#[114,101,116]⟩ : ByteArray),0,0⟩ : S46),(⟨(⟨#[102,97,105,108]⟩ : ByteArray),0,0⟩ : S46)] : List (S46)) : List (S46))).bind fun y161 => (if x1.length + y161.length < 4398046511104 then (some (x1 ++ y161)) else (none)))
end
def impl_insForms.f (k : Nat)  : Option ((List (S46))):=(strings_Fields.f (⟨#[116,114,117,101,32,102,97,108,115,101,32,109,101,32,97,100,100,32,115,117,98,32,109,117,108,32,100,105,118,32,109,111,100,32,108,101,115,115,32,115,97,109,101,32,97,110,100,32,111,114,32,110,111,116]⟩ : ByteArray)).bind fun t129 => (impl_insForms.l0 k (([(⟨(⟨#[110,117,109]⟩ : ByteArray),1000001,0⟩ : S46)] : List (S46))) t129 (t129.length : Int) 0)
theorem impl_insForms.mono_l : ∀ k,(∀ y0 y1 y2 y3,LeO (impl_insForms.l0 k y0 y1 y2 y3) (impl_insForms.l0 (k + 1) y0 y1 y2 y3)) ∧ (∀ y0 y1 y2 y3,LeO (impl_insForms.l1 k y0 y1 y2 y3) (impl_insForms.l1 (k + 1) y0 y1 y2 y3))
 | 0 => ⟨fun _ _ _ _ r h => by simp [impl_insForms.l0] at h,fun _ _ _ _ r h => by simp [impl_insForms.l1] at h⟩
 | k + 1 => by
  obtain ⟨ih0,ih1⟩:=impl_insForms.mono_l k
  refine ⟨?_,?_⟩
  ·intro y0 y1 y2 y3
   unfold impl_insForms.l0
   repeat' first
   | (with_reducible exact ih0 _ _ _ _)
   | (with_reducible exact ih1 _ _ _ _)
   | (with_reducible exact LeO.refl _)
   | (with_reducible exact LeO.none _)
   | (with_reducible refine LeO.ite ?_ ?_)
   | (with_reducible refine LeO.bind ?_ (fun _ => ?_))
   | exact ih0 _ _ _ _
   | exact ih1 _ _ _ _
   | exact LeO.none _
   | refine LeO.ite ?_ ?_
   | refine LeO.bind ?_ (fun _ => ?_)
  ·intro y0 y1 y2 y3
   unfold impl_insForms.l1
   repeat' first
   | (with_reducible exact ih0 _ _ _ _)
   | (with_reducible exact ih1 _ _ _ _)
   | (with_reducible exact LeO.refl _)
   | (with_reducible exact LeO.none _)
   | (with_reducible refine LeO.ite ?_ ?_)
   | (with_reducible refine LeO.bind ?_ (fun _ => ?_))
   | exact ih0 _ _ _ _
   | exact ih1 _ _ _ _
   | exact LeO.none _
   | refine LeO.ite ?_ ?_
   | refine LeO.bind ?_ (fun _ => ?_)
theorem impl_insForms.mono : ∀ k,LeO (impl_insForms.f k ) (impl_insForms.f (k + 1) ):=by
 intro  k
 obtain ⟨ih0,ih1⟩:=impl_insForms.mono_l k
 unfold impl_insForms.f
 repeat' first
   | (with_reducible exact ih0 _ _ _ _)
   | (with_reducible exact ih1 _ _ _ _)
   | (with_reducible exact LeO.refl _)
   | (with_reducible exact LeO.none _)
   | (with_reducible refine LeO.ite ?_ ?_)
   | (with_reducible refine LeO.bind ?_ (fun _ => ?_))
   | exact ih0 _ _ _ _
   | exact ih1 _ _ _ _
   | exact LeO.none _
   | refine LeO.ite ?_ ?_
   | refine LeO.bind ?_ (fun _ => ?_)
set_option maxHeartbeats 8000000 in
set_option maxRecDepth 100000 in
theorem impl_insForms.calls (k : Nat)  (r : List (S46)) (w : World) (hT_ : Tab w) (h : impl_insForms.f k  = some r) :
  Calls Tryd.prog 34 #[] w fun e w' => ∃ v0_ : Value,e = .returned (v0_) ∧ Kd.R k46 46 w' w.heap.size (fun _ => True) v0_ r ∧ Below w.heap.size w w':=by
 have hu46:=Tryd.underlying46
 have HB:=Aside0.mk (Below.refl w.heap.size w)
 have H : ((strings_Fields.f (⟨#[116,114,117,101,32,102,97,108,115,101,32,109,101,32,97,100,100,32,115,117,98,32,109,117,108,32,100,105,118,32,109,111,100,32,108,101,115,115,32,115,97,109,101,32,97,110,100,32,111,114,32,110,111,116]⟩ : ByteArray)).bind fun t129 => (impl_insForms.l0 k (([(⟨(⟨#[110,117,109]⟩ : ByteArray),1000001,0⟩ : S46)] : List (S46))) t129 (t129.length : Int) 0)) = some r:=h
 clear h
 obtain ⟨y126,hy126⟩ : ∃ y_ : List (S46),y_ = (([(⟨(⟨#[110,117,109]⟩ : ByteArray),1000001,0⟩ : S46)] : List (S46))):=⟨_,rfl⟩
 replace H : ((strings_Fields.f (⟨#[116,114,117,101,32,102,97,108,115,101,32,109,101,32,97,100,100,32,115,117,98,32,109,117,108,32,100,105,118,32,109,111,100,32,108,101,115,115,32,115,97,109,101,32,97,110,100,32,111,114,32,110,111,116]⟩ : ByteArray)).bind fun t129 => (impl_insForms.l0 k y126 t129 (t129.length : Int) 0)) = some r:=by first | (rw [hy126];with_reducible exact H) | (have H2_:=(Option.bind_some _ _).symm.trans H;rw [hy126];with_reducible exact H2_) | (have H2_:=(Option.bind_some _ _).symm.trans H;with_reducible exact H2_) | with_reducible exact H | (rw [hy126];exact H) | exact H
 have Ny126:=Aside0.mk hy126
 clear hy126
 replace H:=Option.bind_eq_some_iff.mp H
 obtain ⟨t129,A10,H⟩:=H
 replace H : (impl_insForms.l0 k y126 t129 (t129.length : Int) 0) = some r:=H
 have A1:=Aside0.mk A10
 clear A10
 have H':=Aside0.mk H
 clear H
 go_enter Tryd.func34,Tryd.ntmps34
 go_wp2_with (first | ((with_reducible refine gate_dst (N:=7) rfl ?_);refine Kd.R_lit k46 _ 46 ?hg (N:=7) ?hd (xs:=([(⟨(⟨#[110,117,109]⟩ : ByteArray),1000001,0⟩ : S46)] : List (S46))) (inner:=[.string (⟨#[110,117,109]⟩ : ByteArray),.int .i64 1000001,.int .i64 0]) (ok:=fun _ => True) (okp:=fun _ => True) ?hr ?hp (fun _ hk => hk) trivial (Below.refl _ _) (Nat.le_refl _) (by simp) ?_;(case hd => rfl);(case hg => rfl);(case hr => first | (go_simp;done) | (go_simp;rfl));(case hp => exact (Reps.c3 (show Kd.M k46 _ _ _ (⟨(⟨#[110,117,109]⟩ : ByteArray),1000001,0⟩ : S46) [.string (⟨#[110,117,109]⟩ : ByteArray),.int .i64 1000001,.int .i64 0] from (k46_mkM _ _ _ (⟨(⟨#[110,117,109]⟩ : ByteArray),1000001,0⟩ : S46) )) (Reps.none _ _)));intro v127 w2 ho3 hb hg_ hnew_;clear hg_ hnew_;(first | rw [← Ny126.out] at ho3 | (simp only [Int.reduceToNat] at ho3;rw [← Ny126.out] at ho3));have n0_:=Aside0.mk (Kd.R_lower ho3 (below_size (Up.Bup HB)));have n1_:=Up.BB HB hb;clear HB;have HO128:=n0_;have HB:=n1_;clear n0_ n1_ hb ho3) | ((with_reducible refine gate_callee (f:=51) rfl ?_);refine Up.gl (some 8) Tryd.func51 #[.string (⟨#[116,114,117,101,32,102,97,108,115,101,32,109,101,32,97,100,100,32,115,117,98,32,109,117,108,32,100,105,118,32,109,111,100,32,108,101,115,115,32,115,97,109,101,32,97,110,100,32,111,114,32,110,111,116]⟩ : ByteArray)] ?_;(with_reducible refine (strings_Fields.calls (hT_:=?tab1) (⟨#[116,114,117,101,32,102,97,108,115,101,32,109,101,32,97,100,100,32,115,117,98,32,109,117,108,32,100,105,118,32,109,111,100,32,108,101,115,115,32,115,97,109,101,32,97,110,100,32,111,114,32,110,111,116]⟩ : ByteArray) t129 _ A1.out).mono ?_);(case tab1 => exact hT_.below (Up.Bx HB));rintro e w4 ⟨v130,rfl,ho0,hb⟩;refine ⟨_,rfl,?_⟩;have n0_:=Up.RB HO128 hb;have n1_:=Aside0.mk (Kd.R_lower ho0 (below_size (Up.Bup HB)));have n2_:=Up.BB HB hb;clear HO128 HB;have HO128:=n0_;have HO131:=n1_;have HB:=n2_;clear n0_ n1_ n2_;(try clear hb);(try clear hb2);(try clear hk);(try clear hi);(try clear ho0);obtain ⟨Ao5,co5,eo5⟩:=Kd.R_slice HO131.out;subst eo5))
 go_loopg [1,10] k (fun kq v1 v10 w' => ∃ (x1_1 : List (S46)) (x10_1 : Int),v10 = .int .i64 x10_1 ∧ Aside0 (impl_insForms.l0 kq x1_1 t129 (t129.length : Int) x10_1 = some r) ∧ Aside0 (kq ≤ k) ∧ Aside0 (Kd.R k46 46 w' w.heap.size (fun _ => True) v1 x1_1) ∧ Aside0 (Kd.R Kd.string 9 w' w.heap.size (fun _ => True) (.slice Ao5 t129.length co5) t129) ∧ Aside0 (Below w.heap.size w w'))
 case atStart => exact ⟨(y126),(0),(by first | rfl | (simp;done) | (simp [*];done)),H',⟨Nat.le_refl _⟩,⟨Up.Rup HO128⟩,⟨Up.Rup HO131⟩,⟨Up.Bup HB⟩⟩
 case round =>
  clear H'
  try clear p2
  try clear c3
  try clear c5
  obtain ⟨x1_1,x10_1,rfl,HA,HK1,HO_1,HO_8,HB⟩:=hrel
  cases gk with
  | zero => exact absurd HA.out (by simp [impl_insForms.l0])
  | succ k1 =>
   have H:=HA.out
   clear HA
   simp only [impl_insForms.l0] at H
   by_cases c6 : x10_1 < (t129.length : Int)
   ·rw [if_pos c6] at H
    have c6b0 : decide (x10_1 < (t129.length : Int)) = true:=decide_eq_true c6
    clear c6
    by_cases c7 : 0 ≤ x10_1
    ·rw [if_pos c7] at H
     have c7b0 : decide (0 ≤ x10_1) = true:=decide_eq_true c7
     clear c7
     by_cases c8 : x10_1 < (t129.length : Int)
     ·rw [if_pos c8] at H
      have c8b0 : decide (x10_1 < (t129.length : Int)) = true:=decide_eq_true c8
      clear c8
      by_cases c9 : x1_1.length < 4398046511104
      ·rw [if_pos c9] at H
       have LMc9:=Aside0.mk c9
       clear c9
       obtain ⟨y133,hy133⟩ : ∃ y_ : List (S46),y_ = (x1_1 ++ [(⟨rdOf ByteArray.empty t129 x10_1,0,0⟩ : S46)]):=⟨_,rfl⟩
       replace H : (impl_insForms.l0 k1 y133 t129 (t129.length : Int) (wrap64 (x10_1 + 1))) = some r:=by first | (rw [hy133];with_reducible exact H) | (have H2_:=(Option.bind_some _ _).symm.trans H;rw [hy133];with_reducible exact H2_) | (have H2_:=(Option.bind_some _ _).symm.trans H;with_reducible exact H2_) | with_reducible exact H | (rw [hy133];exact H) | exact H
       have Ny133:=Aside0.mk hy133
       clear hy133
       have H':=Aside0.mk H
       clear H
       have p132 : 0 ≤ (x10_1 : Int):=Up.od
       have q132 : x10_1 < (t129.length : Int):=Up.od
       obtain ⟨ad132,e132,hx132_0⟩:=Kd.at_string (Kd.R_reads' HO_8.out).2.2 x10_1 p132 q132
       cases e132
       replace p132:=eq_true p132
       replace q132:=eq_true q132
       go_wp2_with (first | ((with_reducible refine gate_builtin (b:=.append) (xs:=#[.tmp 14,.tmp 17]) rfl ?_);at_builtin;refine Kd.R_append k46 (w0:=w) w.heap.size rfl (.tmp 14) (.tmp 17) 49 46 (.agg #[(.string ⟨#[]⟩),(.int .i64 0),(.int .i64 0)]) 32 rfl Tryd.underlying49 info46 rfl (by decide) (by omega) u1 x1_1 (⟨rdOf ByteArray.empty t129 x10_1,0,0⟩ : S46) [.string (rdOf ByteArray.empty t129 x10_1),.int .i64 0,.int .i64 0] (fun _ => True) (fun _ => False) rfl rfl ?aP (fun _ hk => hk.elim) ?aF ?aO ?aB ?aS ?aL ?_;(case aP => exact k46_mkM _ _ _ (⟨rdOf ByteArray.empty t129 x10_1,0,0⟩ : S46));(case aB => exact (Up.Bup HB));(case aF => exact (fun _ _ => trivial));(case aO => exact (Up.Rup HO_1));(case aS => exact (below_size (Up.Bup HB)));(case aL => have:=LMc9.out;omega);intro v134 w10 ho hb hg hat;rw [← Ny133.out] at ho;have n0_:=Aside0.mk (Kd.R_over' (Up.Rup HO_8) (Kd.R_typed (Up.Rup HO_1)) (by decide) hg);have n1_:=Aside0.mk (hb);have n2_:=Aside0.mk (ho);clear HO_8 HB HO_1;have HO_8:=n0_;have HB:=n1_;have HO135:=n2_;clear n0_ n1_ n2_ ho hb hg hat))
       go_roundg k1
       case measure => have:=HK1.out;omega
       case rel => exact ⟨(y133),(wrap64 (x10_1 + 1)),(by first | rfl | (simp;done) | (simp [*];done)),H',⟨by have:=HK1.out;omega⟩,⟨Up.Rup HO135⟩,⟨Up.Rup HO_8⟩,⟨Up.Bup HB⟩⟩
      ·rw [if_neg c9] at H
       exact absurd H (by simp)
     ·rw [if_neg c8] at H
      exact absurd H (by simp)
    ·rw [if_neg c7] at H
     exact absurd H (by simp)
   ·rw [if_neg c6] at H
    have c6b0 : decide (x10_1 < (t129.length : Int)) = false:=decide_eq_false c6
    clear c6
    obtain ⟨y136,hy136⟩ : ∃ y_ : List (S46),y_ = (([(⟨(⟨#[99,111,112,121]⟩ : ByteArray),6,0⟩ : S46),(⟨(⟨#[109,111,118,101]⟩ : ByteArray),6,0⟩ : S46),(⟨(⟨#[112,117,116]⟩ : ByteArray),6,0⟩ : S46),(⟨(⟨#[100,114,111,112]⟩ : ByteArray),0,0⟩ : S46)] : List (S46))):=⟨_,rfl⟩
    replace H : (if x1_1.length + y136.length < 4398046511104 then ((some (x1_1 ++ y136 : List (S46))).bind fun y139 => ((some (([(⟨(⟨#[112,97,99,107]⟩ : ByteArray),3,0⟩ : S46),(⟨(⟨#[117,110,112,97,99,107]⟩ : ByteArray),3,0⟩ : S46),(⟨(⟨#[108,101,110,100]⟩ : ByteArray),6,0⟩ : S46),(⟨(⟨#[108,101,110,100,119]⟩ : ByteArray),6,0⟩ : S46),(⟨(⟨#[102,105,101,108,100]⟩ : ByteArray),3,3⟩ : S46)] : List (S46)) : List (S46))).bind fun y142 => (if y139.length + y142.length < 4398046511104 then ((some (y139 ++ y142 : List (S46))).bind fun y145 => ((some (([(⟨(⟨#[114,101,97,100]⟩ : ByteArray),0,0⟩ : S46),(⟨(⟨#[112,101,101,107]⟩ : ByteArray),0,0⟩ : S46),(⟨(⟨#[119,114,105,116,101]⟩ : ByteArray),0,0⟩ : S46),(⟨(⟨#[102,114,101,101,122,101]⟩ : ByteArray),0,0⟩ : S46)] : List (S46)) : List (S46))).bind fun y148 => (if y145.length + y148.length < 4398046511104 then ((strings_Fields.f (⟨#[107,101,101,112,32,116,97,107,101,32,104,97,115,32,115,101,101,32,115,101,101,119]⟩ : ByteArray)).bind fun t154 => (impl_insForms.l1 k1 (y145 ++ y148) t154 (t154.length : Int) 0)) else (none)))) else (none)))) else (none)) = some r:=by first | (rw [hy136];with_reducible exact H) | (have H2_:=(Option.bind_some _ _).symm.trans H;rw [hy136];with_reducible exact H2_) | (have H2_:=(Option.bind_some _ _).symm.trans H;with_reducible exact H2_) | with_reducible exact H | (rw [hy136];exact H) | exact H
    have Ny136:=Aside0.mk hy136
    clear hy136
    by_cases c11 : x1_1.length + y136.length < 4398046511104
    ·rw [if_pos c11] at H
     have LMc11:=Aside0.mk c11
     clear c11
     obtain ⟨y139,hy139⟩ : ∃ y_ : List (S46),y_ = (x1_1 ++ y136):=⟨_,rfl⟩
     replace H : ((some (([(⟨(⟨#[112,97,99,107]⟩ : ByteArray),3,0⟩ : S46),(⟨(⟨#[117,110,112,97,99,107]⟩ : ByteArray),3,0⟩ : S46),(⟨(⟨#[108,101,110,100]⟩ : ByteArray),6,0⟩ : S46),(⟨(⟨#[108,101,110,100,119]⟩ : ByteArray),6,0⟩ : S46),(⟨(⟨#[102,105,101,108,100]⟩ : ByteArray),3,3⟩ : S46)] : List (S46)) : List (S46))).bind fun y142 => (if y139.length + y142.length < 4398046511104 then ((some (y139 ++ y142 : List (S46))).bind fun y145 => ((some (([(⟨(⟨#[114,101,97,100]⟩ : ByteArray),0,0⟩ : S46),(⟨(⟨#[112,101,101,107]⟩ : ByteArray),0,0⟩ : S46),(⟨(⟨#[119,114,105,116,101]⟩ : ByteArray),0,0⟩ : S46),(⟨(⟨#[102,114,101,101,122,101]⟩ : ByteArray),0,0⟩ : S46)] : List (S46)) : List (S46))).bind fun y148 => (if y145.length + y148.length < 4398046511104 then ((strings_Fields.f (⟨#[107,101,101,112,32,116,97,107,101,32,104,97,115,32,115,101,101,32,115,101,101,119]⟩ : ByteArray)).bind fun t154 => (impl_insForms.l1 k1 (y145 ++ y148) t154 (t154.length : Int) 0)) else (none)))) else (none))) = some r:=by first | (rw [hy139];with_reducible exact H) | (have H2_:=(Option.bind_some _ _).symm.trans H;rw [hy139];with_reducible exact H2_) | (have H2_:=(Option.bind_some _ _).symm.trans H;with_reducible exact H2_) | with_reducible exact H | (rw [hy139];exact H) | exact H
     have Ny139:=Aside0.mk hy139
     clear hy139
     obtain ⟨y142,hy142⟩ : ∃ y_ : List (S46),y_ = (([(⟨(⟨#[112,97,99,107]⟩ : ByteArray),3,0⟩ : S46),(⟨(⟨#[117,110,112,97,99,107]⟩ : ByteArray),3,0⟩ : S46),(⟨(⟨#[108,101,110,100]⟩ : ByteArray),6,0⟩ : S46),(⟨(⟨#[108,101,110,100,119]⟩ : ByteArray),6,0⟩ : S46),(⟨(⟨#[102,105,101,108,100]⟩ : ByteArray),3,3⟩ : S46)] : List (S46))):=⟨_,rfl⟩
     replace H : (if y139.length + y142.length < 4398046511104 then ((some (y139 ++ y142 : List (S46))).bind fun y145 => ((some (([(⟨(⟨#[114,101,97,100]⟩ : ByteArray),0,0⟩ : S46),(⟨(⟨#[112,101,101,107]⟩ : ByteArray),0,0⟩ : S46),(⟨(⟨#[119,114,105,116,101]⟩ : ByteArray),0,0⟩ : S46),(⟨(⟨#[102,114,101,101,122,101]⟩ : ByteArray),0,0⟩ : S46)] : List (S46)) : List (S46))).bind fun y148 => (if y145.length + y148.length < 4398046511104 then ((strings_Fields.f (⟨#[107,101,101,112,32,116,97,107,101,32,104,97,115,32,115,101,101,32,115,101,101,119]⟩ : ByteArray)).bind fun t154 => (impl_insForms.l1 k1 (y145 ++ y148) t154 (t154.length : Int) 0)) else (none)))) else (none)) = some r:=by first | (rw [hy142];with_reducible exact H) | (have H2_:=(Option.bind_some _ _).symm.trans H;rw [hy142];with_reducible exact H2_) | (have H2_:=(Option.bind_some _ _).symm.trans H;with_reducible exact H2_) | with_reducible exact H | (rw [hy142];exact H) | exact H
     have Ny142:=Aside0.mk hy142
     clear hy142
     by_cases c12 : y139.length + y142.length < 4398046511104
     ·rw [if_pos c12] at H
      have LMc12:=Aside0.mk c12
      clear c12
      obtain ⟨y145,hy145⟩ : ∃ y_ : List (S46),y_ = (y139 ++ y142):=⟨_,rfl⟩
      replace H : ((some (([(⟨(⟨#[114,101,97,100]⟩ : ByteArray),0,0⟩ : S46),(⟨(⟨#[112,101,101,107]⟩ : ByteArray),0,0⟩ : S46),(⟨(⟨#[119,114,105,116,101]⟩ : ByteArray),0,0⟩ : S46),(⟨(⟨#[102,114,101,101,122,101]⟩ : ByteArray),0,0⟩ : S46)] : List (S46)) : List (S46))).bind fun y148 => (if y145.length + y148.length < 4398046511104 then ((strings_Fields.f (⟨#[107,101,101,112,32,116,97,107,101,32,104,97,115,32,115,101,101,32,115,101,101,119]⟩ : ByteArray)).bind fun t154 => (impl_insForms.l1 k1 (y145 ++ y148) t154 (t154.length : Int) 0)) else (none))) = some r:=by first | (rw [hy145];with_reducible exact H) | (have H2_:=(Option.bind_some _ _).symm.trans H;rw [hy145];with_reducible exact H2_) | (have H2_:=(Option.bind_some _ _).symm.trans H;with_reducible exact H2_) | with_reducible exact H | (rw [hy145];exact H) | exact H
      have Ny145:=Aside0.mk hy145
      clear hy145
      obtain ⟨y148,hy148⟩ : ∃ y_ : List (S46),y_ = (([(⟨(⟨#[114,101,97,100]⟩ : ByteArray),0,0⟩ : S46),(⟨(⟨#[112,101,101,107]⟩ : ByteArray),0,0⟩ : S46),(⟨(⟨#[119,114,105,116,101]⟩ : ByteArray),0,0⟩ : S46),(⟨(⟨#[102,114,101,101,122,101]⟩ : ByteArray),0,0⟩ : S46)] : List (S46))):=⟨_,rfl⟩
      replace H : (if y145.length + y148.length < 4398046511104 then ((strings_Fields.f (⟨#[107,101,101,112,32,116,97,107,101,32,104,97,115,32,115,101,101,32,115,101,101,119]⟩ : ByteArray)).bind fun t154 => (impl_insForms.l1 k1 (y145 ++ y148) t154 (t154.length : Int) 0)) else (none)) = some r:=by first | (rw [hy148];with_reducible exact H) | (have H2_:=(Option.bind_some _ _).symm.trans H;rw [hy148];with_reducible exact H2_) | (have H2_:=(Option.bind_some _ _).symm.trans H;with_reducible exact H2_) | with_reducible exact H | (rw [hy148];exact H) | exact H
      have Ny148:=Aside0.mk hy148
      clear hy148
      by_cases c13 : y145.length + y148.length < 4398046511104
      ·rw [if_pos c13] at H
       have LMc13:=Aside0.mk c13
       clear c13
       obtain ⟨y151,hy151⟩ : ∃ y_ : List (S46),y_ = (y145 ++ y148):=⟨_,rfl⟩
       replace H : ((strings_Fields.f (⟨#[107,101,101,112,32,116,97,107,101,32,104,97,115,32,115,101,101,32,115,101,101,119]⟩ : ByteArray)).bind fun t154 => (impl_insForms.l1 k1 y151 t154 (t154.length : Int) 0)) = some r:=by first | (rw [hy151];with_reducible exact H) | (have H2_:=(Option.bind_some _ _).symm.trans H;rw [hy151];with_reducible exact H2_) | (have H2_:=(Option.bind_some _ _).symm.trans H;with_reducible exact H2_) | with_reducible exact H | (rw [hy151];exact H) | exact H
       have Ny151:=Aside0.mk hy151
       clear hy151
       replace H:=Option.bind_eq_some_iff.mp H
       obtain ⟨t154,A140,H⟩:=H
       replace H : (impl_insForms.l1 k1 y151 t154 (t154.length : Int) 0) = some r:=H
       have A14:=Aside0.mk A140
       clear A140
       have H':=Aside0.mk H
       clear H
       go_wp2_with (first | ((with_reducible refine gate_dst (N:=25) rfl ?_);refine Kd.R_lit k46 _ 46 ?hg (N:=25) ?hd (xs:=([(⟨(⟨#[99,111,112,121]⟩ : ByteArray),6,0⟩ : S46),(⟨(⟨#[109,111,118,101]⟩ : ByteArray),6,0⟩ : S46),(⟨(⟨#[112,117,116]⟩ : ByteArray),6,0⟩ : S46),(⟨(⟨#[100,114,111,112]⟩ : ByteArray),0,0⟩ : S46)] : List (S46))) (inner:=[.string (⟨#[99,111,112,121]⟩ : ByteArray),.int .i64 6,.int .i64 0,.string (⟨#[109,111,118,101]⟩ : ByteArray),.int .i64 6,.int .i64 0,.string (⟨#[112,117,116]⟩ : ByteArray),.int .i64 6,.int .i64 0,.string (⟨#[100,114,111,112]⟩ : ByteArray),.int .i64 0,.int .i64 0]) (ok:=fun _ => True) (okp:=fun _ => True) ?hr ?hp (fun _ hk => hk) trivial (Below.refl _ _) (Nat.le_refl _) (by simp) ?_;(case hd => rfl);(case hg => rfl);(case hr => first | (go_simp;done) | (go_simp;rfl));(case hp => exact (Reps.c3 (show Kd.M k46 _ _ _ (⟨(⟨#[99,111,112,121]⟩ : ByteArray),6,0⟩ : S46) [.string (⟨#[99,111,112,121]⟩ : ByteArray),.int .i64 6,.int .i64 0] from (k46_mkM _ _ _ (⟨(⟨#[99,111,112,121]⟩ : ByteArray),6,0⟩ : S46) )) (Reps.c3 (show Kd.M k46 _ _ _ (⟨(⟨#[109,111,118,101]⟩ : ByteArray),6,0⟩ : S46) [.string (⟨#[109,111,118,101]⟩ : ByteArray),.int .i64 6,.int .i64 0] from (k46_mkM _ _ _ (⟨(⟨#[109,111,118,101]⟩ : ByteArray),6,0⟩ : S46) )) (Reps.c3 (show Kd.M k46 _ _ _ (⟨(⟨#[112,117,116]⟩ : ByteArray),6,0⟩ : S46) [.string (⟨#[112,117,116]⟩ : ByteArray),.int .i64 6,.int .i64 0] from (k46_mkM _ _ _ (⟨(⟨#[112,117,116]⟩ : ByteArray),6,0⟩ : S46) )) (Reps.c3 (show Kd.M k46 _ _ _ (⟨(⟨#[100,114,111,112]⟩ : ByteArray),0,0⟩ : S46) [.string (⟨#[100,114,111,112]⟩ : ByteArray),.int .i64 0,.int .i64 0] from (k46_mkM _ _ _ (⟨(⟨#[100,114,111,112]⟩ : ByteArray),0,0⟩ : S46) )) (Reps.none _ _))))));intro v137 w15 ho16 hb hg_ hnew_;clear hg_ hnew_;(first | rw [← Ny136.out] at ho16 | (simp only [Int.reduceToNat] at ho16;rw [← Ny136.out] at ho16));have n0_:=Aside0.mk (Kd.R_elder' (Up.Rup HO_1) (Kd.R_base ho16) hb);have n1_:=Up.RB HO_8 hb;have n2_:=Aside0.mk (Kd.R_lower (Kd.R_new' ho16 (Kd.R_lt (Up.Rup HO_1))) (below_size (Up.Bup HB)));have n3_:=Up.BB HB hb;clear HO_1 HO_8 HB;have HO_1:=n0_;have HO_8:=n1_;have HO138:=n2_;have HB:=n3_;clear n0_ n1_ n2_ n3_ hb ho16;obtain ⟨Ao18,co18,eo18⟩:=Kd.R_slice HO138.out;subst eo18) | ((with_reducible refine gate_builtin (b:=.append) (xs:=#[.tmp 20,.tmp 25]) rfl ?_);at_builtin;refine Kd.R_append_rows k46 (w0:=w) w.heap.size rfl (.tmp 20) (.tmp 25) 49 46 (.agg #[(.string ⟨#[]⟩),(.int .i64 0),(.int .i64 0)]) 32 rfl Tryd.underlying49 info46 rfl (by decide) (by omega) u1 x1_1 y136 _ _ _ (fun k_ => some k_ ≠ (.slice Ao18 y136.length co18 : Value).ownBlock) (fun _ => False) rfl rfl ?aO ?aR (fun _ _ h => h) (fun _ h => h.elim) ?aF ?aB ?aS ?aL ?_;(case aR => repeat (first | exact (Kd.R_reads' HO138.out).2.2 | (with_reducible refine Kd.C_alloc ?_ _) | (with_reducible refine Kd.C_drewN ?_ _) | (with_reducible refine Kd.C_drew ?_)));(case aB => exact (Up.Bup HB));(case aF => exact (fun k_ hk => Kd.fresh' (Kd.R_lt (Up.Rup HO138)) k_ hk));(case aO => exact (Up.Rq (Kd.R_mono HO_1.out (fun _ hk => hk.2))));(case aS => exact (below_size (Up.Bup HB)));(case aL => have:=LMc11.out;omega);intro v140 w17 ho hb hg hat;rw [← Ny139.out] at ho;have n0_:=Aside0.mk (Kd.R_over' (Up.Rup HO_8) (Kd.R_typed (Up.Rup HO_1)) (by decide) hg);have n1_:=Aside0.mk (Kd.R_after (ok:=(fun _ => True)) (Up.Rup HO138) hg hat);have n2_:=Aside0.mk (hb);have n3_:=Aside0.mk (ho);clear HO_8 HO138 HB HO_1;have HO_8:=n0_;have HO138:=n1_;have HB:=n2_;have HO141:=n3_;clear n0_ n1_ n2_ n3_ ho hb hg hat) | ((with_reducible refine gate_dst (N:=33) rfl ?_);refine Kd.R_lit k46 _ 46 ?hg (N:=33) ?hd (xs:=([(⟨(⟨#[112,97,99,107]⟩ : ByteArray),3,0⟩ : S46),(⟨(⟨#[117,110,112,97,99,107]⟩ : ByteArray),3,0⟩ : S46),(⟨(⟨#[108,101,110,100]⟩ : ByteArray),6,0⟩ : S46),(⟨(⟨#[108,101,110,100,119]⟩ : ByteArray),6,0⟩ : S46),(⟨(⟨#[102,105,101,108,100]⟩ : ByteArray),3,3⟩ : S46)] : List (S46))) (inner:=[.string (⟨#[112,97,99,107]⟩ : ByteArray),.int .i64 3,.int .i64 0,.string (⟨#[117,110,112,97,99,107]⟩ : ByteArray),.int .i64 3,.int .i64 0,.string (⟨#[108,101,110,100]⟩ : ByteArray),.int .i64 6,.int .i64 0,.string (⟨#[108,101,110,100,119]⟩ : ByteArray),.int .i64 6,.int .i64 0,.string (⟨#[102,105,101,108,100]⟩ : ByteArray),.int .i64 3,.int .i64 3]) (ok:=fun _ => True) (okp:=fun _ => True) ?hr ?hp (fun _ hk => hk) trivial (Below.refl _ _) (Nat.le_refl _) (by simp) ?_;(case hd => rfl);(case hg => rfl);(case hr => first | (go_simp;done) | (go_simp;rfl));(case hp => exact (Reps.c3 (show Kd.M k46 _ _ _ (⟨(⟨#[112,97,99,107]⟩ : ByteArray),3,0⟩ : S46) [.string (⟨#[112,97,99,107]⟩ : ByteArray),.int .i64 3,.int .i64 0] from (k46_mkM _ _ _ (⟨(⟨#[112,97,99,107]⟩ : ByteArray),3,0⟩ : S46) )) (Reps.c3 (show Kd.M k46 _ _ _ (⟨(⟨#[117,110,112,97,99,107]⟩ : ByteArray),3,0⟩ : S46) [.string (⟨#[117,110,112,97,99,107]⟩ : ByteArray),.int .i64 3,.int .i64 0] from (k46_mkM _ _ _ (⟨(⟨#[117,110,112,97,99,107]⟩ : ByteArray),3,0⟩ : S46) )) (Reps.c3 (show Kd.M k46 _ _ _ (⟨(⟨#[108,101,110,100]⟩ : ByteArray),6,0⟩ : S46) [.string (⟨#[108,101,110,100]⟩ : ByteArray),.int .i64 6,.int .i64 0] from (k46_mkM _ _ _ (⟨(⟨#[108,101,110,100]⟩ : ByteArray),6,0⟩ : S46) )) (Reps.c3 (show Kd.M k46 _ _ _ (⟨(⟨#[108,101,110,100,119]⟩ : ByteArray),6,0⟩ : S46) [.string (⟨#[108,101,110,100,119]⟩ : ByteArray),.int .i64 6,.int .i64 0] from (k46_mkM _ _ _ (⟨(⟨#[108,101,110,100,119]⟩ : ByteArray),6,0⟩ : S46) )) (Reps.c3 (show Kd.M k46 _ _ _ (⟨(⟨#[102,105,101,108,100]⟩ : ByteArray),3,3⟩ : S46) [.string (⟨#[102,105,101,108,100]⟩ : ByteArray),.int .i64 3,.int .i64 3] from (k46_mkM _ _ _ (⟨(⟨#[102,105,101,108,100]⟩ : ByteArray),3,3⟩ : S46) )) (Reps.none _ _)))))));intro v143 w19 ho20 hb hg_ hnew_;clear hg_ hnew_;(first | rw [← Ny142.out] at ho20 | (simp only [Int.reduceToNat] at ho20;rw [← Ny142.out] at ho20));have n0_:=Up.RB HO_8 hb;have n1_:=Aside0.mk (Kd.R_elder' (Up.Rup HO138) (Kd.R_base ho20) hb);have n2_:=Aside0.mk (Kd.R_elder' (Up.Rup HO141) (Kd.R_base ho20) hb);have n3_:=Aside0.mk (Kd.R_lower (Kd.R_new' (Kd.R_new' ho20 (Kd.R_lt (Up.Rup HO138))) (Kd.R_lt (Up.Rup HO141))) (below_size (Up.Bup HB)));have n4_:=Up.BB HB hb;clear HO_8 HO138 HO141 HB;have HO_8:=n0_;have HO138:=n1_;have HO141:=n2_;have HO144:=n3_;have HB:=n4_;clear n0_ n1_ n2_ n3_ n4_ hb ho20;obtain ⟨Ao22,co22,eo22⟩:=Kd.R_slice HO144.out;subst eo22) | ((with_reducible refine gate_builtin (b:=.append) (xs:=#[.tmp 27,.tmp 33]) rfl ?_);at_builtin;refine Kd.R_append_rows k46 (w0:=w) w.heap.size rfl (.tmp 27) (.tmp 33) 49 46 (.agg #[(.string ⟨#[]⟩),(.int .i64 0),(.int .i64 0)]) 32 rfl Tryd.underlying49 info46 rfl (by decide) (by omega) v140 y139 y142 _ _ _ (fun k_ => some k_ ≠ (.slice Ao18 y136.length co18 : Value).ownBlock ∧ some k_ ≠ (.slice Ao22 y142.length co22 : Value).ownBlock) (fun _ => False) rfl rfl ?aO ?aR (fun _ _ h => h) (fun _ h => h.elim) ?aF ?aB ?aS ?aL ?_;(case aR => repeat (first | exact (Kd.R_reads' HO144.out).2.2 | (with_reducible refine Kd.C_alloc ?_ _) | (with_reducible refine Kd.C_drewN ?_ _) | (with_reducible refine Kd.C_drew ?_)));(case aB => exact (Up.Bup HB));(case aF => exact (fun k_ hk => ⟨Kd.fresh' (Kd.R_lt (Up.Rup HO138)) k_ hk,Kd.fresh' (Kd.R_lt (Up.Rup HO144)) k_ hk⟩));(case aO => exact (Up.Rup HO141));(case aS => exact (below_size (Up.Bup HB)));(case aL => have:=LMc12.out;omega);intro v146 w21 ho hb hg hat;rw [← Ny145.out] at ho;have n0_:=Aside0.mk (Kd.R_over' (Up.Rup HO_8) (Kd.R_typed (Up.Rup HO141)) (by decide) hg);have n1_:=Aside0.mk (Kd.R_after (ok:=(fun k_ => some k_ ≠ (.slice Ao22 y142.length co22 : Value).ownBlock)) (Up.Rq (Kd.R_mono HO138.out (fun _ hk => ⟨hk.2,hk.1.2⟩))) hg hat);have n2_:=Aside0.mk (Kd.R_after (ok:=(fun k_ => some k_ ≠ (.slice Ao18 y136.length co18 : Value).ownBlock)) (Up.Rq (Kd.R_mono HO144.out (fun _ hk => ⟨hk.1.2,hk.2⟩))) hg hat);have n3_:=Aside0.mk (hb);have n4_:=Aside0.mk (ho);clear HO_8 HO138 HO144 HB HO141;have HO_8:=n0_;have HO138:=n1_;have HO144:=n2_;have HB:=n3_;have HO147:=n4_;clear n0_ n1_ n2_ n3_ n4_ ho hb hg hat) | ((with_reducible refine gate_dst (N:=40) rfl ?_);refine Kd.R_lit k46 _ 46 ?hg (N:=40) ?hd (xs:=([(⟨(⟨#[114,101,97,100]⟩ : ByteArray),0,0⟩ : S46),(⟨(⟨#[112,101,101,107]⟩ : ByteArray),0,0⟩ : S46),(⟨(⟨#[119,114,105,116,101]⟩ : ByteArray),0,0⟩ : S46),(⟨(⟨#[102,114,101,101,122,101]⟩ : ByteArray),0,0⟩ : S46)] : List (S46))) (inner:=[.string (⟨#[114,101,97,100]⟩ : ByteArray),.int .i64 0,.int .i64 0,.string (⟨#[112,101,101,107]⟩ : ByteArray),.int .i64 0,.int .i64 0,.string (⟨#[119,114,105,116,101]⟩ : ByteArray),.int .i64 0,.int .i64 0,.string (⟨#[102,114,101,101,122,101]⟩ : ByteArray),.int .i64 0,.int .i64 0]) (ok:=fun _ => True) (okp:=fun _ => True) ?hr ?hp (fun _ hk => hk) trivial (Below.refl _ _) (Nat.le_refl _) (by simp) ?_;(case hd => rfl);(case hg => rfl);(case hr => first | (go_simp;done) | (go_simp;rfl));(case hp => exact (Reps.c3 (show Kd.M k46 _ _ _ (⟨(⟨#[114,101,97,100]⟩ : ByteArray),0,0⟩ : S46) [.string (⟨#[114,101,97,100]⟩ : ByteArray),.int .i64 0,.int .i64 0] from (k46_mkM _ _ _ (⟨(⟨#[114,101,97,100]⟩ : ByteArray),0,0⟩ : S46) )) (Reps.c3 (show Kd.M k46 _ _ _ (⟨(⟨#[112,101,101,107]⟩ : ByteArray),0,0⟩ : S46) [.string (⟨#[112,101,101,107]⟩ : ByteArray),.int .i64 0,.int .i64 0] from (k46_mkM _ _ _ (⟨(⟨#[112,101,101,107]⟩ : ByteArray),0,0⟩ : S46) )) (Reps.c3 (show Kd.M k46 _ _ _ (⟨(⟨#[119,114,105,116,101]⟩ : ByteArray),0,0⟩ : S46) [.string (⟨#[119,114,105,116,101]⟩ : ByteArray),.int .i64 0,.int .i64 0] from (k46_mkM _ _ _ (⟨(⟨#[119,114,105,116,101]⟩ : ByteArray),0,0⟩ : S46) )) (Reps.c3 (show Kd.M k46 _ _ _ (⟨(⟨#[102,114,101,101,122,101]⟩ : ByteArray),0,0⟩ : S46) [.string (⟨#[102,114,101,101,122,101]⟩ : ByteArray),.int .i64 0,.int .i64 0] from (k46_mkM _ _ _ (⟨(⟨#[102,114,101,101,122,101]⟩ : ByteArray),0,0⟩ : S46) )) (Reps.none _ _))))));intro v149 w23 ho24 hb hg_ hnew_;clear hg_ hnew_;(first | rw [← Ny148.out] at ho24 | (simp only [Int.reduceToNat] at ho24;rw [← Ny148.out] at ho24));have n0_:=Up.RB HO_8 hb;have n1_:=Aside0.mk (Kd.R_elder' (Up.Rup HO138) (Kd.R_base ho24) hb);have n2_:=Aside0.mk (Kd.R_elder' (Up.Rup HO144) (Kd.R_base ho24) hb);have n3_:=Aside0.mk (Kd.R_elder' (Up.Rup HO147) (Kd.R_base ho24) hb);have n4_:=Aside0.mk (Kd.R_lower (Kd.R_new' (Kd.R_new' (Kd.R_new' ho24 (Kd.R_lt (Up.Rup HO138))) (Kd.R_lt (Up.Rup HO144))) (Kd.R_lt (Up.Rup HO147))) (below_size (Up.Bup HB)));have n5_:=Up.BB HB hb;clear HO_8 HO138 HO144 HO147 HB;have HO_8:=n0_;have HO138:=n1_;have HO144:=n2_;have HO147:=n3_;have HO150:=n4_;have HB:=n5_;clear n0_ n1_ n2_ n3_ n4_ n5_ hb ho24;obtain ⟨Ao26,co26,eo26⟩:=Kd.R_slice HO150.out;subst eo26) | ((with_reducible refine gate_builtin (b:=.append) (xs:=#[.tmp 35,.tmp 40]) rfl ?_);at_builtin;refine Kd.R_append_rows k46 (w0:=w) w.heap.size rfl (.tmp 35) (.tmp 40) 49 46 (.agg #[(.string ⟨#[]⟩),(.int .i64 0),(.int .i64 0)]) 32 rfl Tryd.underlying49 info46 rfl (by decide) (by omega) v146 y145 y148 _ _ _ (fun k_ => some k_ ≠ (.slice Ao18 y136.length co18 : Value).ownBlock ∧ some k_ ≠ (.slice Ao22 y142.length co22 : Value).ownBlock ∧ some k_ ≠ (.slice Ao26 y148.length co26 : Value).ownBlock) (fun _ => False) rfl rfl ?aO ?aR (fun _ _ h => h) (fun _ h => h.elim) ?aF ?aB ?aS ?aL ?_;(case aR => repeat (first | exact (Kd.R_reads' HO150.out).2.2 | (with_reducible refine Kd.C_alloc ?_ _) | (with_reducible refine Kd.C_drewN ?_ _) | (with_reducible refine Kd.C_drew ?_)));(case aB => exact (Up.Bup HB));(case aF => exact (fun k_ hk => ⟨Kd.fresh' (Kd.R_lt (Up.Rup HO138)) k_ hk,Kd.fresh' (Kd.R_lt (Up.Rup HO144)) k_ hk,Kd.fresh' (Kd.R_lt (Up.Rup HO150)) k_ hk⟩));(case aO => exact (Up.Rq (Kd.R_mono HO147.out (fun _ hk => ⟨hk.1.1,⟨hk.1.2,hk.2⟩⟩))));(case aS => exact (below_size (Up.Bup HB)));(case aL => have:=LMc13.out;omega);intro v152 w25 ho hb hg hat;rw [← Ny151.out] at ho;have n0_:=Aside0.mk (Kd.R_over' (Up.Rup HO_8) (Kd.R_typed (Up.Rup HO147)) (by decide) hg);have n1_:=Aside0.mk (Kd.R_after (ok:=(fun k_ => some k_ ≠ (.slice Ao22 y142.length co22 : Value).ownBlock ∧ some k_ ≠ (.slice Ao26 y148.length co26 : Value).ownBlock)) (Up.Rq (Kd.R_mono HO138.out (fun _ hk => ⟨⟨hk.1.1,hk.2⟩,hk.1.2⟩))) hg hat);have n2_:=Aside0.mk (Kd.R_after (ok:=(fun k_ => some k_ ≠ (.slice Ao18 y136.length co18 : Value).ownBlock ∧ some k_ ≠ (.slice Ao26 y148.length co26 : Value).ownBlock)) (Up.Rq (Kd.R_mono HO144.out (fun _ hk => ⟨⟨hk.1.1,hk.2⟩,hk.1.2⟩))) hg hat);have n3_:=Aside0.mk (Kd.R_after (ok:=(fun k_ => some k_ ≠ (.slice Ao18 y136.length co18 : Value).ownBlock ∧ some k_ ≠ (.slice Ao22 y142.length co22 : Value).ownBlock)) (Up.Rq (Kd.R_mono HO150.out (fun _ hk => ⟨⟨hk.1.1.2,hk.1.2⟩,hk.2⟩))) hg hat);have n4_:=Aside0.mk (hb);have n5_:=Aside0.mk (ho);clear HO_8 HO138 HO144 HO150 HB HO147;have HO_8:=n0_;have HO138:=n1_;have HO144:=n2_;have HO150:=n3_;have HB:=n4_;have HO153:=n5_;clear n0_ n1_ n2_ n3_ n4_ n5_ ho hb hg hat) | ((with_reducible refine gate_callee (f:=51) rfl ?_);refine Up.gl (some 42) Tryd.func51 #[.string (⟨#[107,101,101,112,32,116,97,107,101,32,104,97,115,32,115,101,101,32,115,101,101,119]⟩ : ByteArray)] ?_;(with_reducible refine (strings_Fields.calls (hT_:=?tab1) (⟨#[107,101,101,112,32,116,97,107,101,32,104,97,115,32,115,101,101,32,115,101,101,119]⟩ : ByteArray) t154 _ A14.out).mono ?_);(case tab1 => exact hT_.below (Up.Bx HB));rintro e w27 ⟨v155,rfl,ho0,hb⟩;refine ⟨_,rfl,?_⟩;have n0_:=Aside0.mk (Kd.R_elder' (Up.Rup HO_8) (Kd.R_base ho0) hb);have n1_:=Up.RB HO138 hb;have n2_:=Up.RB HO144 hb;have n3_:=Up.RB HO150 hb;have n4_:=Up.RB HO153 hb;have n5_:=Aside0.mk (Kd.R_lower (Kd.R_new' ho0 (Kd.R_lt (Up.Rup HO_8))) (below_size (Up.Bup HB)));have n6_:=Up.BB HB hb;clear HO_8 HO138 HO144 HO150 HO153 HB;have HO_8:=n0_;have HO138:=n1_;have HO144:=n2_;have HO150:=n3_;have HO153:=n4_;have HO156:=n5_;have HB:=n6_;clear n0_ n1_ n2_ n3_ n4_ n5_ n6_;(try clear hb);(try clear hb2);(try clear hk);(try clear hi);(try clear ho0);obtain ⟨Ao28,co28,eo28⟩:=Kd.R_slice HO156.out;subst eo28))
       go_loopg [1,44] k1 (fun kq v1 v44 w' => ∃ (x1_2 : List (S46)) (x44_2 : Int),v44 = .int .i64 x44_2 ∧ Aside0 (impl_insForms.l1 kq x1_2 t154 (t154.length : Int) x44_2 = some r) ∧ Aside0 (kq ≤ k1) ∧ Aside0 (Kd.R k46 46 w' w.heap.size (fun _ => True) v1 x1_2) ∧ Aside0 (Kd.R Kd.string 9 w' w.heap.size (fun _ => True) (.slice Ao28 t154.length co28) t154) ∧ Aside0 (Below w.heap.size w w'))
       case atStart => exact ⟨(y151),(0),(by first | rfl | (simp;done) | (simp [*];done)),H',⟨Nat.le_refl _⟩,⟨by (with_reducible repeat (first | apply Kd.R_alloc | apply Kd.R_drewN | apply Kd.R_drew));exact Kd.R_mono HO153.out (fun _ hk => trivial)⟩,⟨by (with_reducible repeat (first | apply Kd.R_alloc | apply Kd.R_drewN | apply Kd.R_drew));exact Kd.R_mono HO156.out (fun _ hk => trivial)⟩,⟨Up.Bup HB⟩⟩
       case round =>
        clear H'
        try clear c1
        try clear p1
        try clear q1
        try clear hx1
        try clear p2
        try clear c3
        try clear c5
        try clear c6
        try clear c6b0
        try clear p6
        try clear c7
        try clear c7b0
        try clear c8
        try clear c8b0
        try clear c9
        try clear c11
        try clear c12
        try clear c13
        try clear p13
        try clear q13
        try clear hx13
        try clear hx132_0
        try clear p132
        try clear p2
        try clear q132
        obtain ⟨x1_2,x44_2,rfl,HA,HK2,HO_1,HO_42,HB⟩:=hrel
        cases gk with
        | zero => exact absurd HA.out (by simp [impl_insForms.l1])
        | succ k2 =>
         have H:=HA.out
         clear HA
         simp only [impl_insForms.l1] at H
         by_cases c29 : x44_2 < (t154.length : Int)
         ·rw [if_pos c29] at H
          have c29b0 : decide (x44_2 < (t154.length : Int)) = true:=decide_eq_true c29
          clear c29
          by_cases c30 : 0 ≤ x44_2
          ·rw [if_pos c30] at H
           have c30b0 : decide (0 ≤ x44_2) = true:=decide_eq_true c30
           clear c30
           by_cases c31 : x44_2 < (t154.length : Int)
           ·rw [if_pos c31] at H
            have c31b0 : decide (x44_2 < (t154.length : Int)) = true:=decide_eq_true c31
            clear c31
            by_cases c32 : x1_2.length < 4398046511104
            ·rw [if_pos c32] at H
             have LMc32:=Aside0.mk c32
             clear c32
             obtain ⟨y158,hy158⟩ : ∃ y_ : List (S46),y_ = (x1_2 ++ [(⟨rdOf ByteArray.empty t154 x44_2,3,0⟩ : S46)]):=⟨_,rfl⟩
             replace H : (impl_insForms.l1 k2 y158 t154 (t154.length : Int) (wrap64 (x44_2 + 1))) = some r:=by first | (rw [hy158];with_reducible exact H) | (have H2_:=(Option.bind_some _ _).symm.trans H;rw [hy158];with_reducible exact H2_) | (have H2_:=(Option.bind_some _ _).symm.trans H;with_reducible exact H2_) | with_reducible exact H | (rw [hy158];exact H) | exact H
             have Ny158:=Aside0.mk hy158
             clear hy158
             have H':=Aside0.mk H
             clear H
             have p157 : 0 ≤ (x44_2 : Int):=Up.od
             have q157 : x44_2 < (t154.length : Int):=Up.od
             obtain ⟨ad157,e157,hx157_0⟩:=Kd.at_string (Kd.R_reads' HO_42.out).2.2 x44_2 p157 q157
             cases e157
             replace p157:=eq_true p157
             replace q157:=eq_true q157
             go_wp2_with (first | ((with_reducible refine gate_builtin (b:=.append) (xs:=#[.tmp 48,.tmp 51]) rfl ?_);at_builtin;refine Kd.R_append k46 (w0:=w) w.heap.size rfl (.tmp 48) (.tmp 51) 49 46 (.agg #[(.string ⟨#[]⟩),(.int .i64 0),(.int .i64 0)]) 32 rfl Tryd.underlying49 info46 rfl (by decide) (by omega) u1 x1_2 (⟨rdOf ByteArray.empty t154 x44_2,3,0⟩ : S46) [.string (rdOf ByteArray.empty t154 x44_2),.int .i64 3,.int .i64 0] (fun _ => True) (fun _ => False) rfl rfl ?aP (fun _ hk => hk.elim) ?aF ?aO ?aB ?aS ?aL ?_;(case aP => exact k46_mkM _ _ _ (⟨rdOf ByteArray.empty t154 x44_2,3,0⟩ : S46));(case aB => exact (Up.Bup HB));(case aF => exact (fun _ _ => trivial));(case aO => exact (Up.Rup HO_1));(case aS => exact (below_size (Up.Bup HB)));(case aL => have:=LMc32.out;omega);intro v159 w33 ho hb hg hat;rw [← Ny158.out] at ho;have n0_:=Aside0.mk (Kd.R_over' (Up.Rup HO_42) (Kd.R_typed (Up.Rup HO_1)) (by decide) hg);have n1_:=Aside0.mk (hb);have n2_:=Aside0.mk (ho);clear HO_42 HB HO_1;have HO_42:=n0_;have HB:=n1_;have HO160:=n2_;clear n0_ n1_ n2_ ho hb hg hat))
             go_roundg k2
             case measure => have:=HK1.out;have:=HK2.out;omega
             case rel => exact ⟨(y158),(wrap64 (x44_2 + 1)),(by first | rfl | (simp;done) | (simp [*];done)),H',⟨by have:=HK1.out;have:=HK2.out;omega⟩,⟨Up.Rup HO160⟩,⟨Up.Rup HO_42⟩,⟨Up.Bup HB⟩⟩
            ·rw [if_neg c32] at H
             exact absurd H (by simp)
           ·rw [if_neg c31] at H
            exact absurd H (by simp)
          ·rw [if_neg c30] at H
           exact absurd H (by simp)
         ·rw [if_neg c29] at H
          have c29b0 : decide (x44_2 < (t154.length : Int)) = false:=decide_eq_false c29
          clear c29
          obtain ⟨y161,hy161⟩ : ∃ y_ : List (S46),y_ = (([(⟨(⟨#[106,117,109,112]⟩ : ByteArray),40,0⟩ : S46),(⟨(⟨#[122,101,114,111]⟩ : ByteArray),40,0⟩ : S46),(⟨(⟨#[99,97,108,108]⟩ : ByteArray),3,4⟩ : S46),(⟨(⟨#[114,101,116]⟩ : ByteArray),0,0⟩ : S46),(⟨(⟨#[102,97,105,108]⟩ : ByteArray),0,0⟩ : S46)] : List (S46))):=⟨_,rfl⟩
          replace H : (if x1_2.length + y161.length < 4398046511104 then (some (x1_2 ++ y161)) else (none)) = some r:=by first | (rw [hy161];with_reducible exact H) | (have H2_:=(Option.bind_some _ _).symm.trans H;rw [hy161];with_reducible exact H2_) | (have H2_:=(Option.bind_some _ _).symm.trans H;with_reducible exact H2_) | with_reducible exact H | (rw [hy161];exact H) | exact H
          have Ny161:=Aside0.mk hy161
          clear hy161
          by_cases c34 : x1_2.length + y161.length < 4398046511104
          ·rw [if_pos c34] at H
           have LMc34:=Aside0.mk c34
           clear c34
           obtain ⟨y164,hy164⟩ : ∃ y_ : List (S46),y_ = (x1_2 ++ y161):=⟨_,rfl⟩
           replace H : (some y164) = some r:=by first | (rw [hy164];with_reducible exact H) | (have H2_:=(Option.bind_some _ _).symm.trans H;rw [hy164];with_reducible exact H2_) | (have H2_:=(Option.bind_some _ _).symm.trans H;with_reducible exact H2_) | with_reducible exact H | (rw [hy164];exact H) | exact H
           have Ny164:=Aside0.mk hy164
           clear hy164
           obtain rfl:=Option.some.inj H
           go_wp2_with (first | ((with_reducible refine gate_dst (N:=60) rfl ?_);refine Kd.R_lit k46 _ 46 ?hg (N:=60) ?hd (xs:=([(⟨(⟨#[106,117,109,112]⟩ : ByteArray),40,0⟩ : S46),(⟨(⟨#[122,101,114,111]⟩ : ByteArray),40,0⟩ : S46),(⟨(⟨#[99,97,108,108]⟩ : ByteArray),3,4⟩ : S46),(⟨(⟨#[114,101,116]⟩ : ByteArray),0,0⟩ : S46),(⟨(⟨#[102,97,105,108]⟩ : ByteArray),0,0⟩ : S46)] : List (S46))) (inner:=[.string (⟨#[106,117,109,112]⟩ : ByteArray),.int .i64 40,.int .i64 0,.string (⟨#[122,101,114,111]⟩ : ByteArray),.int .i64 40,.int .i64 0,.string (⟨#[99,97,108,108]⟩ : ByteArray),.int .i64 3,.int .i64 4,.string (⟨#[114,101,116]⟩ : ByteArray),.int .i64 0,.int .i64 0,.string (⟨#[102,97,105,108]⟩ : ByteArray),.int .i64 0,.int .i64 0]) (ok:=fun _ => True) (okp:=fun _ => True) ?hr ?hp (fun _ hk => hk) trivial (Below.refl _ _) (Nat.le_refl _) (by simp) ?_;(case hd => rfl);(case hg => rfl);(case hr => first | (go_simp;done) | (go_simp;rfl));(case hp => exact (Reps.c3 (show Kd.M k46 _ _ _ (⟨(⟨#[106,117,109,112]⟩ : ByteArray),40,0⟩ : S46) [.string (⟨#[106,117,109,112]⟩ : ByteArray),.int .i64 40,.int .i64 0] from (k46_mkM _ _ _ (⟨(⟨#[106,117,109,112]⟩ : ByteArray),40,0⟩ : S46) )) (Reps.c3 (show Kd.M k46 _ _ _ (⟨(⟨#[122,101,114,111]⟩ : ByteArray),40,0⟩ : S46) [.string (⟨#[122,101,114,111]⟩ : ByteArray),.int .i64 40,.int .i64 0] from (k46_mkM _ _ _ (⟨(⟨#[122,101,114,111]⟩ : ByteArray),40,0⟩ : S46) )) (Reps.c3 (show Kd.M k46 _ _ _ (⟨(⟨#[99,97,108,108]⟩ : ByteArray),3,4⟩ : S46) [.string (⟨#[99,97,108,108]⟩ : ByteArray),.int .i64 3,.int .i64 4] from (k46_mkM _ _ _ (⟨(⟨#[99,97,108,108]⟩ : ByteArray),3,4⟩ : S46) )) (Reps.c3 (show Kd.M k46 _ _ _ (⟨(⟨#[114,101,116]⟩ : ByteArray),0,0⟩ : S46) [.string (⟨#[114,101,116]⟩ : ByteArray),.int .i64 0,.int .i64 0] from (k46_mkM _ _ _ (⟨(⟨#[114,101,116]⟩ : ByteArray),0,0⟩ : S46) )) (Reps.c3 (show Kd.M k46 _ _ _ (⟨(⟨#[102,97,105,108]⟩ : ByteArray),0,0⟩ : S46) [.string (⟨#[102,97,105,108]⟩ : ByteArray),.int .i64 0,.int .i64 0] from (k46_mkM _ _ _ (⟨(⟨#[102,97,105,108]⟩ : ByteArray),0,0⟩ : S46) )) (Reps.none _ _)))))));intro v162 w35 ho36 hb hg_ hnew_;clear hg_ hnew_;(first | rw [← Ny161.out] at ho36 | (simp only [Int.reduceToNat] at ho36;rw [← Ny161.out] at ho36));have n0_:=Aside0.mk (Kd.R_elder' (Up.Rup HO_1) (Kd.R_base ho36) hb);have n1_:=Up.RB HO_42 hb;have n2_:=Aside0.mk (Kd.R_lower (Kd.R_new' ho36 (Kd.R_lt (Up.Rup HO_1))) (below_size (Up.Bup HB)));have n3_:=Up.BB HB hb;clear HO_1 HO_42 HB;have HO_1:=n0_;have HO_42:=n1_;have HO163:=n2_;have HB:=n3_;clear n0_ n1_ n2_ n3_ hb ho36;obtain ⟨Ao38,co38,eo38⟩:=Kd.R_slice HO163.out;subst eo38) | ((with_reducible refine gate_builtin (b:=.append) (xs:=#[.tmp 54,.tmp 60]) rfl ?_);at_builtin;refine Kd.R_append_rows k46 (w0:=w) w.heap.size rfl (.tmp 54) (.tmp 60) 49 46 (.agg #[(.string ⟨#[]⟩),(.int .i64 0),(.int .i64 0)]) 32 rfl Tryd.underlying49 info46 rfl (by decide) (by omega) u1 x1_2 y161 _ _ _ (fun k_ => some k_ ≠ (.slice Ao38 y161.length co38 : Value).ownBlock) (fun _ => False) rfl rfl ?aO ?aR (fun _ _ h => h) (fun _ h => h.elim) ?aF ?aB ?aS ?aL ?_;(case aR => repeat (first | exact (Kd.R_reads' HO163.out).2.2 | (with_reducible refine Kd.C_alloc ?_ _) | (with_reducible refine Kd.C_drewN ?_ _) | (with_reducible refine Kd.C_drew ?_)));(case aB => exact (Up.Bup HB));(case aF => exact (fun k_ hk => Kd.fresh' (Kd.R_lt (Up.Rup HO163)) k_ hk));(case aO => exact (Up.Rq (Kd.R_mono HO_1.out (fun _ hk => hk.2))));(case aS => exact (below_size (Up.Bup HB)));(case aL => have:=LMc34.out;omega);intro v165 w37 ho hb hg hat;rw [← Ny164.out] at ho;have n0_:=Aside0.mk (Kd.R_over' (Up.Rup HO_42) (Kd.R_typed (Up.Rup HO_1)) (by decide) hg);have n1_:=Aside0.mk (Kd.R_after (ok:=(fun _ => True)) (Up.Rup HO163) hg hat);have n2_:=Aside0.mk (hb);have n3_:=Aside0.mk (ho);clear HO_42 HO163 HB HO_1;have HO_42:=n0_;have HO163:=n1_;have HB:=n2_;have HO166:=n3_;clear n0_ n1_ n2_ n3_ ho hb hg hat))
           go_ret
           exact ⟨_,by first | rfl | (simp [errW_none,errW_some] <;> rfl) | (simp [*,errW_none,errW_some] <;> rfl),by (with_reducible repeat (first | apply Kd.R_alloc | apply Kd.R_drewN | apply Kd.R_drew));exact Kd.R_mono HO166.out (fun _ hk => trivial),Up.Bup HB⟩
          ·rw [if_neg c34] at H
           exact absurd H (by simp)
      ·rw [if_neg c13] at H
       exact absurd H (by simp)
     ·rw [if_neg c12] at H
      exact absurd H (by simp)
    ·rw [if_neg c11] at H
     exact absurd H (by simp)

/-! ### impl_formOf: function 32 -/
def impl_formOf.l0 : Nat → ByteArray → List (S46) → Int → Int → Option (ByteArray × Int × Int × Bool)
 | 0,_,_,_,_ => none
 | k + 1,x0,x6,x7,x8 => if x8 < x7 then (if 0 ≤ x8 then (if x8 < (x6.length : Int) then (if ((rd_T46 x6 x8).f0).toList = x0.toList then (some ((rd_T46 x6 x8).f0,(rd_T46 x6 x8).f1,(rd_T46 x6 x8).f2,true)) else (impl_formOf.l0 k x0 x6 x7 (wrap64 (x8 + 1)))) else (none)) else (none)) else (some ((⟨#[]⟩ : ByteArray),0,0,false))
def impl_formOf.f (k : Nat) (a0 : ByteArray) : Option (ByteArray × Int × Int × Bool):=(impl_insForms.f k).bind fun t168 => (impl_formOf.l0 k a0 t168 (t168.length : Int) 0)
theorem impl_formOf.mono_l : ∀ k,(∀ y0 y1 y2 y3,LeO (impl_formOf.l0 k y0 y1 y2 y3) (impl_formOf.l0 (k + 1) y0 y1 y2 y3))
 | 0 => fun _ _ _ _ r h => by simp [impl_formOf.l0] at h
 | k + 1 => by
  have ih0:=impl_formOf.mono_l k
  ·intro y0 y1 y2 y3
   unfold impl_formOf.l0
   repeat' first
   | (with_reducible exact ih0 _ _ _ _)
   | (with_reducible exact impl_insForms.mono _)
   | (with_reducible exact LeO.refl _)
   | (with_reducible exact LeO.none _)
   | (with_reducible refine LeO.ite ?_ ?_)
   | (with_reducible refine LeO.bind ?_ (fun _ => ?_))
   | exact ih0 _ _ _ _
   | exact impl_insForms.mono _
   | exact LeO.none _
   | refine LeO.ite ?_ ?_
   | refine LeO.bind ?_ (fun _ => ?_)
theorem impl_formOf.mono : ∀ a0 k,LeO (impl_formOf.f k a0) (impl_formOf.f (k + 1) a0):=by
 intro a0 k
 have ih0:=impl_formOf.mono_l k
 unfold impl_formOf.f
 repeat' first
   | (with_reducible exact ih0 _ _ _ _)
   | (with_reducible exact impl_insForms.mono _)
   | (with_reducible exact LeO.refl _)
   | (with_reducible exact LeO.none _)
   | (with_reducible refine LeO.ite ?_ ?_)
   | (with_reducible refine LeO.bind ?_ (fun _ => ?_))
   | exact ih0 _ _ _ _
   | exact impl_insForms.mono _
   | exact LeO.none _
   | refine LeO.ite ?_ ?_
   | refine LeO.bind ?_ (fun _ => ?_)
set_option maxHeartbeats 8000000 in
set_option maxRecDepth 100000 in
theorem impl_formOf.calls (k : Nat) (a0 : ByteArray) (r1 : ByteArray) (r2 : Int) (r3 : Int) (r4 : Bool) (w : World) (hT_ : Tab w) (h : impl_formOf.f k a0 = some (r1,r2,r3,r4)) :
  Calls Tryd.prog 32 #[.string a0] w fun e w' => e = .returned (.tuple #[.agg #[.string r1,.int .i64 r2,.int .i64 r3],.bool r4]) ∧ Below w.heap.size w w':=by
 have hu46:=Tryd.underlying46
 have HB:=Aside0.mk (Below.refl w.heap.size w)
 have H : ((impl_insForms.f k).bind fun t168 => (impl_formOf.l0 k a0 t168 (t168.length : Int) 0)) = some (r1,r2,r3,r4):=h
 clear h
 replace H:=Option.bind_eq_some_iff.mp H
 obtain ⟨t168,A20,H⟩:=H
 replace H : (impl_formOf.l0 k a0 t168 (t168.length : Int) 0) = some (r1,r2,r3,r4):=H
 have A2:=Aside0.mk A20
 clear A20
 have H':=Aside0.mk H
 clear H
 go_enter Tryd.func32,Tryd.ntmps32
 go_wp2_with (first | ((with_reducible refine gate_dst (N:=2) rfl ?_);refine Up.bx 2 46 #[.string (⟨#[]⟩ : ByteArray),.int .i64 0,.int .i64 0] ?_;intro gb167 hg w3 hbox hb;have n0_:=Up.BB HB hb;have n1_:=Aside0.mk (hbox);have n2_:=Up.gw hg HB;have n3_:=Up.gw hg HB;clear HB;have HB:=n0_;have BK167:=n1_;have GW167:=n2_;have GE167:=n3_;clear n0_ n1_ n2_ n3_ hb hbox hg) | ((with_reducible refine gate_callee (f:=34) rfl ?_);refine Up.gl (some 6) Tryd.func34 #[] ?_;(with_reducible refine (impl_insForms.calls (hT_:=?tab1) k  t168 _ A2.out).mono ?_);(case tab1 => exact hT_.below (Up.Bx HB));rintro e w4 ⟨v169,rfl,ho0,hb⟩;refine ⟨_,rfl,?_⟩;have n0_:=Aside0.mk (Kd.R_lower (Kd.R_newB ho0 (g:=gb167) (o:=.cells #[.string (⟨#[]⟩ : ByteArray),.int .i64 0,.int .i64 0] 46 (0,0)) (Up.Kup BK167)) (below_size (Up.Bx HB)));have n1_:=Up.KB BK167 hb;have n2_:=Aside0.mk (below_step (Up.Bx HB) hb);clear BK167 HB;have HO170:=n0_;have BK167:=n1_;have HB:=n2_;clear n0_ n1_ n2_;(try clear hb);(try clear hb2);(try clear hk);(try clear hi);(try clear ho0);obtain ⟨Ao5,co5,eo5⟩:=Kd.R_slice HO170.out;subst eo5))
 go_loopg [8] k (fun kq v8 w' => ∃ (x8_1 : Int) (x168000_1 : ByteArray) (x168001_1 : Int) (x168002_1 : Int),v8 = .int .i64 x8_1 ∧ Aside0 (impl_formOf.l0 kq a0 t168 (t168.length : Int) x8_1 = some (r1,r2,r3,r4)) ∧ Aside0 (kq ≤ k) ∧ Aside0 (Kd.R k46 46 w' w.heap.size (fun k_ => k_ ≠ gb167) (.slice Ao5 t168.length co5) t168) ∧ Aside0 (w'.heap[gb167]? = some (.cells #[.string x168000_1,.int .i64 x168001_1,.int .i64 x168002_1] 46 (0,0))) ∧ Aside0 (Below w.heap.size w w'))
 case atStart => exact ⟨(0),((⟨#[]⟩ : ByteArray)),(0),(0),(by first | rfl | (simp;done) | (simp [*];done)),H',⟨Nat.le_refl _⟩,⟨by (with_reducible repeat (first | apply Kd.R_alloc | apply Kd.R_drewN | apply Kd.R_drew));exact Kd.R_mono HO170.out (fun _ hk => hk.2)⟩,⟨by (with_reducible repeat (first | refine blk_drewN ?_ _ | refine blk_drew ?_ | refine blk_alloc ?_ _));exact BK167.out⟩,⟨Up.Bx HB⟩⟩
 case round =>
  clear H'
  try clear p2
  try clear c3
  obtain ⟨x8_1,x168000_1,x168001_1,x168002_1,rfl,HA,HK1,HO_6,BK167,HB⟩:=hrel
  cases gk with
  | zero => exact absurd HA.out (by simp [impl_formOf.l0])
  | succ k1 =>
   have H:=HA.out
   clear HA
   simp only [impl_formOf.l0] at H
   by_cases c6 : x8_1 < (t168.length : Int)
   ·rw [if_pos c6] at H
    have c6b0 : decide (x8_1 < (t168.length : Int)) = true:=decide_eq_true c6
    clear c6
    by_cases c7 : 0 ≤ x8_1
    ·rw [if_pos c7] at H
     have c7b0 : decide (0 ≤ x8_1) = true:=decide_eq_true c7
     clear c7
     by_cases c8 : x8_1 < (t168.length : Int)
     ·rw [if_pos c8] at H
      have c8b0 : decide (x8_1 < (t168.length : Int)) = true:=decide_eq_true c8
      clear c8
      by_cases c9 : ((rd_T46 t168 x8_1).f0).toList = a0.toList
      ·rw [if_pos c9] at H
       have c9b0 : (((rd_T46 t168 x8_1).f0).toList == a0.toList) = true:=beq_iff_eq.mpr c9
       have c9b1 : (((rd_T46 t168 x8_1).f0).toList != a0.toList) = false:=bne_eq_false_iff_eq.mpr c9
       clear c9
       simp only [Option.some.injEq,Prod.mk.injEq] at H
       obtain ⟨rfl,rfl,rfl,rfl⟩:=H
       have p171 : 0 ≤ (x8_1 : Int):=Up.od
       have q171 : x8_1 < (t168.length : Int):=Up.od
       obtain ⟨ad171,e171,hx171_0,hx171_1,hx171_2⟩:=at_T46 (Kd.R_reads' HO_6.out).2.2 x8_1 p171 q171
       cases e171
       replace p171:=eq_true p171
       replace q171:=eq_true q171
       go_wp2_with (first | ((with_reducible refine gate_dst (N:=5) rfl ?_);refine Up.bx 5 46 #[.string (⟨#[]⟩ : ByteArray),.int .i64 0,.int .i64 0] ?_;intro gb172 hg w10 hbox hb;have n0_:=Aside0.mk (Kd.R_below (Kd.R_elderB (Up.Rup HO_6) gb172 (Nat.le_of_eq hg.symm)) hb);have n1_:=Up.KB BK167 hb;have n2_:=Aside0.mk (below_step (Up.Bx HB) hb);have n3_:=Aside0.mk (hbox);have n4_:=Up.gw hg HB;have n5_:=Up.gw hg HB;have n6_:=Up.nl hg BK167;have n7_:=Up.ng hg BK167;clear HO_6 BK167 HB;have HO_6:=n0_;have BK167:=n1_;have HB:=n2_;have BK172:=n3_;have GW172:=n4_;have GE172:=n5_;have NB167_172:=n6_;have NB172_167:=n7_;clear n0_ n1_ n2_ n3_ n4_ n5_ n6_ n7_ hb hbox hg;have hnb11:=NB172_167.out;have hnc11:=NB167_172.out;have hcz12_0:=Up.c0 BK172;have hcz12_1:=Up.c1 BK172;have hcz12_2:=Up.c2 BK172;have hfz12_0:=blk_frozen BK172.out 0;have hfz12_1:=blk_frozen BK172.out 1;have hfz12_2:=blk_frozen BK172.out 2;have hcz13_0:=Up.c0 BK167;have hcz13_1:=Up.c1 BK167;have hcz13_2:=Up.c2 BK167;have hfz13_0:=blk_frozen BK167.out 0;have hfz13_1:=blk_frozen BK167.out 1;have hfz13_2:=blk_frozen BK167.out 2))
       refine bodyPost_ret (results_ct rfl _ _ gb167 46 #[.string ((rd_T46 t168 x8_1).f0),.int .i64 ((rd_T46 t168 x8_1).f1),.int .i64 ((rd_T46 t168 x8_1).f2)] (0,0) _ rfl (Up.Kx BK167) Tryd.underlying46 rfl (by kernel_rfl)) rfl ?_
       exact Up.e1 (Up.Bx HB)
      ·rw [if_neg c9] at H
       have c9b0 : (((rd_T46 t168 x8_1).f0).toList == a0.toList) = false:=beq_eq_false_iff_ne.mpr c9
       have c9b1 : (((rd_T46 t168 x8_1).f0).toList != a0.toList) = true:=bne_iff_ne.mpr c9
       have H':=Aside0.mk H
       clear H
       have p171 : 0 ≤ (x8_1 : Int):=Up.od
       have q171 : x8_1 < (t168.length : Int):=Up.od
       obtain ⟨ad171,e171,hx171_0,hx171_1,hx171_2⟩:=at_T46 (Kd.R_reads' HO_6.out).2.2 x8_1 p171 q171
       cases e171
       replace p171:=eq_true p171
       replace q171:=eq_true q171
       go_wp2_with (first | ((with_reducible refine gate_dst (N:=5) rfl ?_);refine Up.bx 5 46 #[.string (⟨#[]⟩ : ByteArray),.int .i64 0,.int .i64 0] ?_;intro gb172 hg w14 hbox hb;have n0_:=Aside0.mk (Kd.R_below (Kd.R_elderB (Up.Rup HO_6) gb172 (Nat.le_of_eq hg.symm)) hb);have n1_:=Up.KB BK167 hb;have n2_:=Aside0.mk (below_step (Up.Bx HB) hb);have n3_:=Aside0.mk (hbox);have n4_:=Up.gw hg HB;have n5_:=Up.gw hg HB;have n6_:=Up.nl hg BK167;have n7_:=Up.ng hg BK167;clear HO_6 BK167 HB;have HO_6:=n0_;have BK167:=n1_;have HB:=n2_;have BK172:=n3_;have GW172:=n4_;have GE172:=n5_;have NB167_172:=n6_;have NB172_167:=n7_;clear n0_ n1_ n2_ n3_ n4_ n5_ n6_ n7_ hb hbox hg;have hnb15:=NB172_167.out;have hnc15:=NB167_172.out;have hcz16_0:=Up.c0 BK172;have hcz16_1:=Up.c1 BK172;have hcz16_2:=Up.c2 BK172;have hfz16_0:=blk_frozen BK172.out 0;have hfz16_1:=blk_frozen BK172.out 1;have hfz16_2:=blk_frozen BK172.out 2))
       go_roundg k1
       case measure => have:=HK1.out;omega
       case rel => exact ⟨(wrap64 (x8_1 + 1)),(x168000_1),(x168001_1),(x168002_1),(by first | rfl | (simp;done) | (simp [*];done)),H',⟨by have:=HK1.out;omega⟩,⟨by (with_reducible repeat (first | apply Kd.R_alloc | apply Kd.R_drewN | apply Kd.R_drew));exact Kd.R_mono (Kd.R_far (p:=⟨gb172,2,none⟩) (Kd.R_far (p:=⟨gb172,1,none⟩) (Kd.R_far (p:=⟨gb172,0,none⟩) (Kd.R_mono HO_6.out (fun k_ hk => (⟨hk,hk.2⟩ : _ ∧ k_ ≠ gb172))) (fun _ hk => hk.2) (.string ((rd_T46 t168 x8_1).f0))) (fun _ hk => hk.2) (.int .i64 ((rd_T46 t168 x8_1).f1))) (fun _ hk => hk.2) (.int .i64 ((rd_T46 t168 x8_1).f2))) (fun _ hk => hk.1.1)⟩,⟨by (with_reducible repeat (first | refine blk_drewN ?_ _ | refine blk_drew ?_ | refine blk_alloc ?_ _));refine blk_far ?_ NB167_172.out _;(with_reducible repeat (first | refine blk_drewN ?_ _ | refine blk_drew ?_ | refine blk_alloc ?_ _));refine blk_far ?_ NB167_172.out _;(with_reducible repeat (first | refine blk_drewN ?_ _ | refine blk_drew ?_ | refine blk_alloc ?_ _));refine blk_far ?_ NB167_172.out _;(with_reducible repeat (first | refine blk_drewN ?_ _ | refine blk_drew ?_ | refine blk_alloc ?_ _));exact BK167.out⟩,⟨Up.Bx HB⟩⟩
     ·rw [if_neg c8] at H
      exact absurd H (by simp)
    ·rw [if_neg c7] at H
     exact absurd H (by simp)
   ·rw [if_neg c6] at H
    have c6b0 : decide (x8_1 < (t168.length : Int)) = false:=decide_eq_false c6
    clear c6
    simp only [Option.some.injEq,Prod.mk.injEq] at H
    obtain ⟨rfl,rfl,rfl,rfl⟩:=H
    have hcz17_0:=Up.c0 BK167
    have hcz17_1:=Up.c1 BK167
    have hcz17_2:=Up.c2 BK167
    have hfz17_0:=blk_frozen BK167.out 0
    have hfz17_1:=blk_frozen BK167.out 1
    have hfz17_2:=blk_frozen BK167.out 2
    go_wp2
    refine bodyPost_ret (results_ct rfl _ _ gb167 46 #[.string (⟨#[]⟩ : ByteArray),.int .i64 0,.int .i64 0] (0,0) _ rfl (Up.Kx BK167) Tryd.underlying46 rfl (by kernel_rfl)) rfl ?_
    exact Up.e1 (Up.Bx HB)

/-! ### impl_limitOk: function 33 -/
def impl_limitOk.f (a0 : Int) (a1 : Int) : Option (Bool):=if a1 = 0 then (some true) else (if a1 > 0 then (some (decide (a1 < a0))) else (some false))
set_option maxHeartbeats 8000000 in
set_option maxRecDepth 100000 in
theorem impl_limitOk.calls (a0 : Int) (a1 : Int) (r : Bool) (w : World) (h : impl_limitOk.f a0 a1 = some r) :
  Calls Tryd.prog 33 #[.int .i64 a0,.int .i64 a1] w fun e w' => e = .returned (.bool r) ∧ Drawn0 w w':=by
 have H : (if a1 = 0 then (some true) else (if a1 > 0 then (some (decide (a1 < a0))) else (some false))) = some r:=h
 clear h
 by_cases c3 : a1 = 0
 ·rw [if_pos c3] at H
  have c3b0 : (a1 == 0) = true:=beq_iff_eq.mpr c3
  have c3b1 : (a1 != 0) = false:=bne_eq_false_iff_eq.mpr c3
  clear c3
  obtain rfl:=Option.some.inj H
  go_enter Tryd.func33,Tryd.ntmps33
  go_wp2
  go_ret
  exact Up.e2
 ·rw [if_neg c3] at H
  have c3b0 : (a1 == 0) = false:=beq_eq_false_iff_ne.mpr c3
  have c3b1 : (a1 != 0) = true:=bne_iff_ne.mpr c3
  by_cases c4 : a1 > 0
  ·rw [if_pos c4] at H
   have c4b0 : decide (0 < a1) = true:=decide_eq_true c4
   clear c4
   obtain rfl:=Option.some.inj H
   go_enter Tryd.func33,Tryd.ntmps33
   go_wp2
   go_ret
   exact Up.e2
  ·rw [if_neg c4] at H
   have c4b0 : decide (0 < a1) = false:=decide_eq_false c4
   clear c4
   obtain rfl:=Option.some.inj H
   go_enter Tryd.func33,Tryd.ntmps33
   go_wp2
   go_ret
   exact Up.e2

end Go.Proofs.YtfkhjnmgaadomaaDoor.OFnExactInsOk
