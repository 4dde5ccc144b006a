-- Laid by a program of this session (wip/myprint.py): the kit's print of the functions, contracts of our own among them.
import Derived.Test.YtfkhjnmgaadomaaDoorOFnInsOkx0
namespace Go.Proofs.YtfkhjnmgaadomaaDoor.OFnInsOk
open Go.RowKit Go.Proofs.YtfkhjnmgaadomaaDoorW.PrintWords Go.Proofs.YtfkhjnmgaadomaaDoorW.PrintLast Go.Proofs.YtfkhjnmgaadomaaDoorW.PrintMore
attribute [local go_sem] max2_int min2_int max_two min_two max_three min_three max_four min_four   -- for this text's walks alone
set_option linter.unusedVariables false
set_option linter.unusedSimpArgs false

/-! ### spec_l3Table: function 36 -/
def spec_l3Table.f  : Option ((List (S26))):=some (([(⟨(⟨#[110,117,109]⟩ : ByteArray),1000001,0⟩ : S26),(⟨(⟨#[116,114,117,101]⟩ : ByteArray),0,0⟩ : S26),(⟨(⟨#[102,97,108,115,101]⟩ : ByteArray),0,0⟩ : S26),(⟨(⟨#[109,101]⟩ : ByteArray),0,0⟩ : S26),(⟨(⟨#[97,100,100]⟩ : ByteArray),0,0⟩ : S26),(⟨(⟨#[115,117,98]⟩ : ByteArray),0,0⟩ : S26),(⟨(⟨#[109,117,108]⟩ : ByteArray),0,0⟩ : S26),(⟨(⟨#[100,105,118]⟩ : ByteArray),0,0⟩ : S26),(⟨(⟨#[109,111,100]⟩ : ByteArray),0,0⟩ : S26),(⟨(⟨#[108,101,115,115]⟩ : ByteArray),0,0⟩ : S26),(⟨(⟨#[115,97,109,101]⟩ : ByteArray),0,0⟩ : S26),(⟨(⟨#[97,110,100]⟩ : ByteArray),0,0⟩ : S26),(⟨(⟨#[111,114]⟩ : ByteArray),0,0⟩ : S26),(⟨(⟨#[110,111,116]⟩ : ByteArray),0,0⟩ : S26),(⟨(⟨#[99,111,112,121]⟩ : ByteArray),6,0⟩ : S26),(⟨(⟨#[109,111,118,101]⟩ : ByteArray),6,0⟩ : S26),(⟨(⟨#[112,117,116]⟩ : ByteArray),6,0⟩ : S26),(⟨(⟨#[100,114,111,112]⟩ : ByteArray),0,0⟩ : S26),(⟨(⟨#[112,97,99,107]⟩ : ByteArray),3,0⟩ : S26),(⟨(⟨#[117,110,112,97,99,107]⟩ : ByteArray),3,0⟩ : S26),(⟨(⟨#[108,101,110,100]⟩ : ByteArray),6,0⟩ : S26),(⟨(⟨#[108,101,110,100,119]⟩ : ByteArray),6,0⟩ : S26),(⟨(⟨#[102,105,101,108,100]⟩ : ByteArray),3,3⟩ : S26),(⟨(⟨#[114,101,97,100]⟩ : ByteArray),0,0⟩ : S26),(⟨(⟨#[112,101,101,107]⟩ : ByteArray),0,0⟩ : S26),(⟨(⟨#[119,114,105,116,101]⟩ : ByteArray),0,0⟩ : S26),(⟨(⟨#[102,114,101,101,122,101]⟩ : ByteArray),0,0⟩ : S26),(⟨(⟨#[107,101,101,112]⟩ : ByteArray),3,0⟩ : S26),(⟨(⟨#[116,97,107,101]⟩ : ByteArray),3,0⟩ : S26),(⟨(⟨#[104,97,115]⟩ : ByteArray),3,0⟩ : S26),(⟨(⟨#[115,101,101]⟩ : ByteArray),3,0⟩ : S26),(⟨(⟨#[115,101,101,119]⟩ : ByteArray),3,0⟩ : S26),(⟨(⟨#[106,117,109,112]⟩ : ByteArray),40,0⟩ : S26),(⟨(⟨#[122,101,114,111]⟩ : ByteArray),40,0⟩ : S26),(⟨(⟨#[99,97,108,108]⟩ : ByteArray),3,4⟩ : S26),(⟨(⟨#[114,101,116]⟩ : ByteArray),0,0⟩ : S26),(⟨(⟨#[102,97,105,108]⟩ : ByteArray),0,0⟩ : S26)] : List (S26)))
set_option maxHeartbeats 8000000 in
set_option maxRecDepth 100000 in
theorem spec_l3Table.calls  (r : List (S26)) (w : World) (h : spec_l3Table.f  = some r) :
  Calls Tryd.prog 36 #[] w fun e w' => ∃ v0_ : Value,e = .returned (v0_) ∧ Kd.R k26 26 w' w.heap.size (fun _ => True) v0_ r ∧ Below w.heap.size w w':=by
 have hu26:=Tryd.underlying26
 have HB:=Aside0.mk (Below.refl w.heap.size w)
 have H : (some (([(⟨(⟨#[110,117,109]⟩ : ByteArray),1000001,0⟩ : S26),(⟨(⟨#[116,114,117,101]⟩ : ByteArray),0,0⟩ : S26),(⟨(⟨#[102,97,108,115,101]⟩ : ByteArray),0,0⟩ : S26),(⟨(⟨#[109,101]⟩ : ByteArray),0,0⟩ : S26),(⟨(⟨#[97,100,100]⟩ : ByteArray),0,0⟩ : S26),(⟨(⟨#[115,117,98]⟩ : ByteArray),0,0⟩ : S26),(⟨(⟨#[109,117,108]⟩ : ByteArray),0,0⟩ : S26),(⟨(⟨#[100,105,118]⟩ : ByteArray),0,0⟩ : S26),(⟨(⟨#[109,111,100]⟩ : ByteArray),0,0⟩ : S26),(⟨(⟨#[108,101,115,115]⟩ : ByteArray),0,0⟩ : S26),(⟨(⟨#[115,97,109,101]⟩ : ByteArray),0,0⟩ : S26),(⟨(⟨#[97,110,100]⟩ : ByteArray),0,0⟩ : S26),(⟨(⟨#[111,114]⟩ : ByteArray),0,0⟩ : S26),(⟨(⟨#[110,111,116]⟩ : ByteArray),0,0⟩ : S26),(⟨(⟨#[99,111,112,121]⟩ : ByteArray),6,0⟩ : S26),(⟨(⟨#[109,111,118,101]⟩ : ByteArray),6,0⟩ : S26),(⟨(⟨#[112,117,116]⟩ : ByteArray),6,0⟩ : S26),(⟨(⟨#[100,114,111,112]⟩ : ByteArray),0,0⟩ : S26),(⟨(⟨#[112,97,99,107]⟩ : ByteArray),3,0⟩ : S26),(⟨(⟨#[117,110,112,97,99,107]⟩ : ByteArray),3,0⟩ : S26),(⟨(⟨#[108,101,110,100]⟩ : ByteArray),6,0⟩ : S26),(⟨(⟨#[108,101,110,100,119]⟩ : ByteArray),6,0⟩ : S26),(⟨(⟨#[102,105,101,108,100]⟩ : ByteArray),3,3⟩ : S26),(⟨(⟨#[114,101,97,100]⟩ : ByteArray),0,0⟩ : S26),(⟨(⟨#[112,101,101,107]⟩ : ByteArray),0,0⟩ : S26),(⟨(⟨#[119,114,105,116,101]⟩ : ByteArray),0,0⟩ : S26),(⟨(⟨#[102,114,101,101,122,101]⟩ : ByteArray),0,0⟩ : S26),(⟨(⟨#[107,101,101,112]⟩ : ByteArray),3,0⟩ : S26),(⟨(⟨#[116,97,107,101]⟩ : ByteArray),3,0⟩ : S26),(⟨(⟨#[104,97,115]⟩ : ByteArray),3,0⟩ : S26),(⟨(⟨#[115,101,101]⟩ : ByteArray),3,0⟩ : S26),(⟨(⟨#[115,101,101,119]⟩ : ByteArray),3,0⟩ : S26),(⟨(⟨#[106,117,109,112]⟩ : ByteArray),40,0⟩ : S26),(⟨(⟨#[122,101,114,111]⟩ : ByteArray),40,0⟩ : S26),(⟨(⟨#[99,97,108,108]⟩ : ByteArray),3,4⟩ : S26),(⟨(⟨#[114,101,116]⟩ : ByteArray),0,0⟩ : S26),(⟨(⟨#[102,97,105,108]⟩ : ByteArray),0,0⟩ : S26)] : List (S26)))) = some r:=h
 clear h
 obtain ⟨y101,hy101⟩ : ∃ y_ : List (S26),y_ = (([(⟨(⟨#[110,117,109]⟩ : ByteArray),1000001,0⟩ : S26),(⟨(⟨#[116,114,117,101]⟩ : ByteArray),0,0⟩ : S26),(⟨(⟨#[102,97,108,115,101]⟩ : ByteArray),0,0⟩ : S26),(⟨(⟨#[109,101]⟩ : ByteArray),0,0⟩ : S26),(⟨(⟨#[97,100,100]⟩ : ByteArray),0,0⟩ : S26),(⟨(⟨#[115,117,98]⟩ : ByteArray),0,0⟩ : S26),(⟨(⟨#[109,117,108]⟩ : ByteArray),0,0⟩ : S26),(⟨(⟨#[100,105,118]⟩ : ByteArray),0,0⟩ : S26),(⟨(⟨#[109,111,100]⟩ : ByteArray),0,0⟩ : S26),(⟨(⟨#[108,101,115,115]⟩ : ByteArray),0,0⟩ : S26),(⟨(⟨#[115,97,109,101]⟩ : ByteArray),0,0⟩ : S26),(⟨(⟨#[97,110,100]⟩ : ByteArray),0,0⟩ : S26),(⟨(⟨#[111,114]⟩ : ByteArray),0,0⟩ : S26),(⟨(⟨#[110,111,116]⟩ : ByteArray),0,0⟩ : S26),(⟨(⟨#[99,111,112,121]⟩ : ByteArray),6,0⟩ : S26),(⟨(⟨#[109,111,118,101]⟩ : ByteArray),6,0⟩ : S26),(⟨(⟨#[112,117,116]⟩ : ByteArray),6,0⟩ : S26),(⟨(⟨#[100,114,111,112]⟩ : ByteArray),0,0⟩ : S26),(⟨(⟨#[112,97,99,107]⟩ : ByteArray),3,0⟩ : S26),(⟨(⟨#[117,110,112,97,99,107]⟩ : ByteArray),3,0⟩ : S26),(⟨(⟨#[108,101,110,100]⟩ : ByteArray),6,0⟩ : S26),(⟨(⟨#[108,101,110,100,119]⟩ : ByteArray),6,0⟩ : S26),(⟨(⟨#[102,105,101,108,100]⟩ : ByteArray),3,3⟩ : S26),(⟨(⟨#[114,101,97,100]⟩ : ByteArray),0,0⟩ : S26),(⟨(⟨#[112,101,101,107]⟩ : ByteArray),0,0⟩ : S26),(⟨(⟨#[119,114,105,116,101]⟩ : ByteArray),0,0⟩ : S26),(⟨(⟨#[102,114,101,101,122,101]⟩ : ByteArray),0,0⟩ : S26),(⟨(⟨#[107,101,101,112]⟩ : ByteArray),3,0⟩ : S26),(⟨(⟨#[116,97,107,101]⟩ : ByteArray),3,0⟩ : S26),(⟨(⟨#[104,97,115]⟩ : ByteArray),3,0⟩ : S26),(⟨(⟨#[115,101,101]⟩ : ByteArray),3,0⟩ : S26),(⟨(⟨#[115,101,101,119]⟩ : ByteArray),3,0⟩ : S26),(⟨(⟨#[106,117,109,112]⟩ : ByteArray),40,0⟩ : S26),(⟨(⟨#[122,101,114,111]⟩ : ByteArray),40,0⟩ : S26),(⟨(⟨#[99,97,108,108]⟩ : ByteArray),3,4⟩ : S26),(⟨(⟨#[114,101,116]⟩ : ByteArray),0,0⟩ : S26),(⟨(⟨#[102,97,105,108]⟩ : ByteArray),0,0⟩ : S26)] : List (S26))):=⟨_,rfl⟩
 replace H : (some y101) = some r:=by first | (rw [hy101];with_reducible exact H) | (have H2_:=(Option.bind_some _ _).symm.trans H;rw [hy101];with_reducible exact H2_) | (have H2_:=(Option.bind_some _ _).symm.trans H;with_reducible exact H2_) | with_reducible exact H | (rw [hy101];exact H) | exact H
 have Ny101:=Aside0.mk hy101
 clear hy101
 obtain rfl:=Option.some.inj H
 go_enter Tryd.func36,Tryd.ntmps36
 go_wp2_with (first | ((with_reducible refine gate_dst (N:=38) rfl ?_);refine Kd.R_lit k26 _ 26 ?hg (N:=38) ?hd (xs:=([(⟨(⟨#[110,117,109]⟩ : ByteArray),1000001,0⟩ : S26),(⟨(⟨#[116,114,117,101]⟩ : ByteArray),0,0⟩ : S26),(⟨(⟨#[102,97,108,115,101]⟩ : ByteArray),0,0⟩ : S26),(⟨(⟨#[109,101]⟩ : ByteArray),0,0⟩ : S26),(⟨(⟨#[97,100,100]⟩ : ByteArray),0,0⟩ : S26),(⟨(⟨#[115,117,98]⟩ : ByteArray),0,0⟩ : S26),(⟨(⟨#[109,117,108]⟩ : ByteArray),0,0⟩ : S26),(⟨(⟨#[100,105,118]⟩ : ByteArray),0,0⟩ : S26),(⟨(⟨#[109,111,100]⟩ : ByteArray),0,0⟩ : S26),(⟨(⟨#[108,101,115,115]⟩ : ByteArray),0,0⟩ : S26),(⟨(⟨#[115,97,109,101]⟩ : ByteArray),0,0⟩ : S26),(⟨(⟨#[97,110,100]⟩ : ByteArray),0,0⟩ : S26),(⟨(⟨#[111,114]⟩ : ByteArray),0,0⟩ : S26),(⟨(⟨#[110,111,116]⟩ : ByteArray),0,0⟩ : S26),(⟨(⟨#[99,111,112,121]⟩ : ByteArray),6,0⟩ : S26),(⟨(⟨#[109,111,118,101]⟩ : ByteArray),6,0⟩ : S26),(⟨(⟨#[112,117,116]⟩ : ByteArray),6,0⟩ : S26),(⟨(⟨#[100,114,111,112]⟩ : ByteArray),0,0⟩ : S26),(⟨(⟨#[112,97,99,107]⟩ : ByteArray),3,0⟩ : S26),(⟨(⟨#[117,110,112,97,99,107]⟩ : ByteArray),3,0⟩ : S26),(⟨(⟨#[108,101,110,100]⟩ : ByteArray),6,0⟩ : S26),(⟨(⟨#[108,101,110,100,119]⟩ : ByteArray),6,0⟩ : S26),(⟨(⟨#[102,105,101,108,100]⟩ : ByteArray),3,3⟩ : S26),(⟨(⟨#[114,101,97,100]⟩ : ByteArray),0,0⟩ : S26),(⟨(⟨#[112,101,101,107]⟩ : ByteArray),0,0⟩ : S26),(⟨(⟨#[119,114,105,116,101]⟩ : ByteArray),0,0⟩ : S26),(⟨(⟨#[102,114,101,101,122,101]⟩ : ByteArray),0,0⟩ : S26),(⟨(⟨#[107,101,101,112]⟩ : ByteArray),3,0⟩ : S26),(⟨(⟨#[116,97,107,101]⟩ : ByteArray),3,0⟩ : S26),(⟨(⟨#[104,97,115]⟩ : ByteArray),3,0⟩ : S26),(⟨(⟨#[115,101,101]⟩ : ByteArray),3,0⟩ : S26),(⟨(⟨#[115,101,101,119]⟩ : ByteArray),3,0⟩ : S26),(⟨(⟨#[106,117,109,112]⟩ : ByteArray),40,0⟩ : S26),(⟨(⟨#[122,101,114,111]⟩ : ByteArray),40,0⟩ : S26),(⟨(⟨#[99,97,108,108]⟩ : ByteArray),3,4⟩ : S26),(⟨(⟨#[114,101,116]⟩ : ByteArray),0,0⟩ : S26),(⟨(⟨#[102,97,105,108]⟩ : ByteArray),0,0⟩ : S26)] : List (S26))) (inner:=[.string (⟨#[110,117,109]⟩ : ByteArray),.int .i64 1000001,.int .i64 0,.string (⟨#[116,114,117,101]⟩ : ByteArray),.int .i64 0,.int .i64 0,.string (⟨#[102,97,108,115,101]⟩ : ByteArray),.int .i64 0,.int .i64 0,.string (⟨#[109,101]⟩ : ByteArray),.int .i64 0,.int .i64 0,.string (⟨#[97,100,100]⟩ : ByteArray),.int .i64 0,.int .i64 0,.string (⟨#[115,117,98]⟩ : ByteArray),.int .i64 0,.int .i64 0,.string (⟨#[109,117,108]⟩ : ByteArray),.int .i64 0,.int .i64 0,.string (⟨#[100,105,118]⟩ : ByteArray),.int .i64 0,.int .i64 0,.string (⟨#[109,111,100]⟩ : ByteArray),.int .i64 0,.int .i64 0,.string (⟨#[108,101,115,115]⟩ : ByteArray),.int .i64 0,.int .i64 0,.string (⟨#[115,97,109,101]⟩ : ByteArray),.int .i64 0,.int .i64 0,.string (⟨#[97,110,100]⟩ : ByteArray),.int .i64 0,.int .i64 0,.string (⟨#[111,114]⟩ : ByteArray),.int .i64 0,.int .i64 0,.string (⟨#[110,111,116]⟩ : ByteArray),.int .i64 0,.int .i64 0,.string (⟨#[99,111,112,121]⟩ : ByteArray),.int .i64 6,.int .i64 0,.string (⟨#[109,111,118,101]⟩ : ByteArray),.int .i64 6,.int .i64 0,.string (⟨#[112,117,116]⟩ : ByteArray),.int .i64 6,.int .i64 0,.string (⟨#[100,114,111,112]⟩ : ByteArray),.int .i64 0,.int .i64 0,.string (⟨#[112,97,99,107]⟩ : ByteArray),.int .i64 3,.int .i64 0,.string (⟨#[117,110,112,97,99,107]⟩ : ByteArray),.int .i64 3,.int .i64 0,.string (⟨#[108,101,110,100]⟩ : ByteArray),.int .i64 6,.int .i64 0,.string (⟨#[108,101,110,100,119]⟩ : ByteArray),.int .i64 6,.int .i64 0,.string (⟨#[102,105,101,108,100]⟩ : ByteArray),.int .i64 3,.int .i64 3,.string (⟨#[114,101,97,100]⟩ : ByteArray),.int .i64 0,.int .i64 0,.string (⟨#[112,101,101,107]⟩ : ByteArray),.int .i64 0,.int .i64 0,.string (⟨#[119,114,105,116,101]⟩ : ByteArray),.int .i64 0,.int .i64 0,.string (⟨#[102,114,101,101,122,101]⟩ : ByteArray),.int .i64 0,.int .i64 0,.string (⟨#[107,101,101,112]⟩ : ByteArray),.int .i64 3,.int .i64 0,.string (⟨#[116,97,107,101]⟩ : ByteArray),.int .i64 3,.int .i64 0,.string (⟨#[104,97,115]⟩ : ByteArray),.int .i64 3,.int .i64 0,.string (⟨#[115,101,101]⟩ : ByteArray),.int .i64 3,.int .i64 0,.string (⟨#[115,101,101,119]⟩ : ByteArray),.int .i64 3,.int .i64 0,.string (⟨#[106,117,109,112]⟩ : ByteArray),.int .i64 40,.int .i64 0,.string (⟨#[122,101,114,111]⟩ : ByteArray),.int .i64 40,.int .i64 0,.string (⟨#[99,97,108,108]⟩ : ByteArray),.int .i64 3,.int .i64 4,.string (⟨#[114,101,116]⟩ : ByteArray),.int .i64 0,.int .i64 0,.string (⟨#[102,97,105,108]⟩ : ByteArray),.int .i64 0,.int .i64 0]) (ok:=fun _ => True) (okp:=fun _ => True) ?hr ?hp (fun _ hk => hk) trivial (Below.refl _ _) (Nat.le_refl _) (by simp) ?_;(case hd => rfl);(case hg => rfl);(case hr => first | (go_simp;done) | (go_simp;rfl));(case hp => exact (Reps.c3 (show Kd.M k26 _ _ _ (⟨(⟨#[110,117,109]⟩ : ByteArray),1000001,0⟩ : S26) [.string (⟨#[110,117,109]⟩ : ByteArray),.int .i64 1000001,.int .i64 0] from (k26_mkM _ _ _ (⟨(⟨#[110,117,109]⟩ : ByteArray),1000001,0⟩ : S26) )) (Reps.c3 (show Kd.M k26 _ _ _ (⟨(⟨#[116,114,117,101]⟩ : ByteArray),0,0⟩ : S26) [.string (⟨#[116,114,117,101]⟩ : ByteArray),.int .i64 0,.int .i64 0] from (k26_mkM _ _ _ (⟨(⟨#[116,114,117,101]⟩ : ByteArray),0,0⟩ : S26) )) (Reps.c3 (show Kd.M k26 _ _ _ (⟨(⟨#[102,97,108,115,101]⟩ : ByteArray),0,0⟩ : S26) [.string (⟨#[102,97,108,115,101]⟩ : ByteArray),.int .i64 0,.int .i64 0] from (k26_mkM _ _ _ (⟨(⟨#[102,97,108,115,101]⟩ : ByteArray),0,0⟩ : S26) )) (Reps.c3 (show Kd.M k26 _ _ _ (⟨(⟨#[109,101]⟩ : ByteArray),0,0⟩ : S26) [.string (⟨#[109,101]⟩ : ByteArray),.int .i64 0,.int .i64 0] from (k26_mkM _ _ _ (⟨(⟨#[109,101]⟩ : ByteArray),0,0⟩ : S26) )) (Reps.c3 (show Kd.M k26 _ _ _ (⟨(⟨#[97,100,100]⟩ : ByteArray),0,0⟩ : S26) [.string (⟨#[97,100,100]⟩ : ByteArray),.int .i64 0,.int .i64 0] from (k26_mkM _ _ _ (⟨(⟨#[97,100,100]⟩ : ByteArray),0,0⟩ : S26) )) (Reps.c3 (show Kd.M k26 _ _ _ (⟨(⟨#[115,117,98]⟩ : ByteArray),0,0⟩ : S26) [.string (⟨#[115,117,98]⟩ : ByteArray),.int .i64 0,.int .i64 0] from (k26_mkM _ _ _ (⟨(⟨#[115,117,98]⟩ : ByteArray),0,0⟩ : S26) )) (Reps.c3 (show Kd.M k26 _ _ _ (⟨(⟨#[109,117,108]⟩ : ByteArray),0,0⟩ : S26) [.string (⟨#[109,117,108]⟩ : ByteArray),.int .i64 0,.int .i64 0] from (k26_mkM _ _ _ (⟨(⟨#[109,117,108]⟩ : ByteArray),0,0⟩ : S26) )) (Reps.c3 (show Kd.M k26 _ _ _ (⟨(⟨#[100,105,118]⟩ : ByteArray),0,0⟩ : S26) [.string (⟨#[100,105,118]⟩ : ByteArray),.int .i64 0,.int .i64 0] from (k26_mkM _ _ _ (⟨(⟨#[100,105,118]⟩ : ByteArray),0,0⟩ : S26) )) (Reps.c3 (show Kd.M k26 _ _ _ (⟨(⟨#[109,111,100]⟩ : ByteArray),0,0⟩ : S26) [.string (⟨#[109,111,100]⟩ : ByteArray),.int .i64 0,.int .i64 0] from (k26_mkM _ _ _ (⟨(⟨#[109,111,100]⟩ : ByteArray),0,0⟩ : S26) )) (Reps.c3 (show Kd.M k26 _ _ _ (⟨(⟨#[108,101,115,115]⟩ : ByteArray),0,0⟩ : S26) [.string (⟨#[108,101,115,115]⟩ : ByteArray),.int .i64 0,.int .i64 0] from (k26_mkM _ _ _ (⟨(⟨#[108,101,115,115]⟩ : ByteArray),0,0⟩ : S26) )) (Reps.c3 (show Kd.M k26 _ _ _ (⟨(⟨#[115,97,109,101]⟩ : ByteArray),0,0⟩ : S26) [.string (⟨#[115,97,109,101]⟩ : ByteArray),.int .i64 0,.int .i64 0] from (k26_mkM _ _ _ (⟨(⟨#[115,97,109,101]⟩ : ByteArray),0,0⟩ : S26) )) (Reps.c3 (show Kd.M k26 _ _ _ (⟨(⟨#[97,110,100]⟩ : ByteArray),0,0⟩ : S26) [.string (⟨#[97,110,100]⟩ : ByteArray),.int .i64 0,.int .i64 0] from (k26_mkM _ _ _ (⟨(⟨#[97,110,100]⟩ : ByteArray),0,0⟩ : S26) )) (Reps.c3 (show Kd.M k26 _ _ _ (⟨(⟨#[111,114]⟩ : ByteArray),0,0⟩ : S26) [.string (⟨#[111,114]⟩ : ByteArray),.int .i64 0,.int .i64 0] from (k26_mkM _ _ _ (⟨(⟨#[111,114]⟩ : ByteArray),0,0⟩ : S26) )) (Reps.c3 (show Kd.M k26 _ _ _ (⟨(⟨#[110,111,116]⟩ : ByteArray),0,0⟩ : S26) [.string (⟨#[110,111,116]⟩ : ByteArray),.int .i64 0,.int .i64 0] from (k26_mkM _ _ _ (⟨(⟨#[110,111,116]⟩ : ByteArray),0,0⟩ : S26) )) (Reps.c3 (show Kd.M k26 _ _ _ (⟨(⟨#[99,111,112,121]⟩ : ByteArray),6,0⟩ : S26) [.string (⟨#[99,111,112,121]⟩ : ByteArray),.int .i64 6,.int .i64 0] from (k26_mkM _ _ _ (⟨(⟨#[99,111,112,121]⟩ : ByteArray),6,0⟩ : S26) )) (Reps.c3 (show Kd.M k26 _ _ _ (⟨(⟨#[109,111,118,101]⟩ : ByteArray),6,0⟩ : S26) [.string (⟨#[109,111,118,101]⟩ : ByteArray),.int .i64 6,.int .i64 0] from (k26_mkM _ _ _ (⟨(⟨#[109,111,118,101]⟩ : ByteArray),6,0⟩ : S26) )) (Reps.c3 (show Kd.M k26 _ _ _ (⟨(⟨#[112,117,116]⟩ : ByteArray),6,0⟩ : S26) [.string (⟨#[112,117,116]⟩ : ByteArray),.int .i64 6,.int .i64 0] from (k26_mkM _ _ _ (⟨(⟨#[112,117,116]⟩ : ByteArray),6,0⟩ : S26) )) (Reps.c3 (show Kd.M k26 _ _ _ (⟨(⟨#[100,114,111,112]⟩ : ByteArray),0,0⟩ : S26) [.string (⟨#[100,114,111,112]⟩ : ByteArray),.int .i64 0,.int .i64 0] from (k26_mkM _ _ _ (⟨(⟨#[100,114,111,112]⟩ : ByteArray),0,0⟩ : S26) )) (Reps.c3 (show Kd.M k26 _ _ _ (⟨(⟨#[112,97,99,107]⟩ : ByteArray),3,0⟩ : S26) [.string (⟨#[112,97,99,107]⟩ : ByteArray),.int .i64 3,.int .i64 0] from (k26_mkM _ _ _ (⟨(⟨#[112,97,99,107]⟩ : ByteArray),3,0⟩ : S26) )) (Reps.c3 (show Kd.M k26 _ _ _ (⟨(⟨#[117,110,112,97,99,107]⟩ : ByteArray),3,0⟩ : S26) [.string (⟨#[117,110,112,97,99,107]⟩ : ByteArray),.int .i64 3,.int .i64 0] from (k26_mkM _ _ _ (⟨(⟨#[117,110,112,97,99,107]⟩ : ByteArray),3,0⟩ : S26) )) (Reps.c3 (show Kd.M k26 _ _ _ (⟨(⟨#[108,101,110,100]⟩ : ByteArray),6,0⟩ : S26) [.string (⟨#[108,101,110,100]⟩ : ByteArray),.int .i64 6,.int .i64 0] from (k26_mkM _ _ _ (⟨(⟨#[108,101,110,100]⟩ : ByteArray),6,0⟩ : S26) )) (Reps.c3 (show Kd.M k26 _ _ _ (⟨(⟨#[108,101,110,100,119]⟩ : ByteArray),6,0⟩ : S26) [.string (⟨#[108,101,110,100,119]⟩ : ByteArray),.int .i64 6,.int .i64 0] from (k26_mkM _ _ _ (⟨(⟨#[108,101,110,100,119]⟩ : ByteArray),6,0⟩ : S26) )) (Reps.c3 (show Kd.M k26 _ _ _ (⟨(⟨#[102,105,101,108,100]⟩ : ByteArray),3,3⟩ : S26) [.string (⟨#[102,105,101,108,100]⟩ : ByteArray),.int .i64 3,.int .i64 3] from (k26_mkM _ _ _ (⟨(⟨#[102,105,101,108,100]⟩ : ByteArray),3,3⟩ : S26) )) (Reps.c3 (show Kd.M k26 _ _ _ (⟨(⟨#[114,101,97,100]⟩ : ByteArray),0,0⟩ : S26) [.string (⟨#[114,101,97,100]⟩ : ByteArray),.int .i64 0,.int .i64 0] from (k26_mkM _ _ _ (⟨(⟨#[114,101,97,100]⟩ : ByteArray),0,0⟩ : S26) )) (Reps.c3 (show Kd.M k26 _ _ _ (⟨(⟨#[112,101,101,107]⟩ : ByteArray),0,0⟩ : S26) [.string (⟨#[112,101,101,107]⟩ : ByteArray),.int .i64 0,.int .i64 0] from (k26_mkM _ _ _ (⟨(⟨#[112,101,101,107]⟩ : ByteArray),0,0⟩ : S26) )) (Reps.c3 (show Kd.M k26 _ _ _ (⟨(⟨#[119,114,105,116,101]⟩ : ByteArray),0,0⟩ : S26) [.string (⟨#[119,114,105,116,101]⟩ : ByteArray),.int .i64 0,.int .i64 0] from (k26_mkM _ _ _ (⟨(⟨#[119,114,105,116,101]⟩ : ByteArray),0,0⟩ : S26) )) (Reps.c3 (show Kd.M k26 _ _ _ (⟨(⟨#[102,114,101,101,122,101]⟩ : ByteArray),0,0⟩ : S26) [.string (⟨#[102,114,101,101,122,101]⟩ : ByteArray),.int .i64 0,.int .i64 0] from (k26_mkM _ _ _ (⟨(⟨#[102,114,101,101,122,101]⟩ : ByteArray),0,0⟩ : S26) )) (Reps.c3 (show Kd.M k26 _ _ _ (⟨(⟨#[107,101,101,112]⟩ : ByteArray),3,0⟩ : S26) [.string (⟨#[107,101,101,112]⟩ : ByteArray),.int .i64 3,.int .i64 0] from (k26_mkM _ _ _ (⟨(⟨#[107,101,101,112]⟩ : ByteArray),3,0⟩ : S26) )) (Reps.c3 (show Kd.M k26 _ _ _ (⟨(⟨#[116,97,107,101]⟩ : ByteArray),3,0⟩ : S26) [.string (⟨#[116,97,107,101]⟩ : ByteArray),.int .i64 3,.int .i64 0] from (k26_mkM _ _ _ (⟨(⟨#[116,97,107,101]⟩ : ByteArray),3,0⟩ : S26) )) (Reps.c3 (show Kd.M k26 _ _ _ (⟨(⟨#[104,97,115]⟩ : ByteArray),3,0⟩ : S26) [.string (⟨#[104,97,115]⟩ : ByteArray),.int .i64 3,.int .i64 0] from (k26_mkM _ _ _ (⟨(⟨#[104,97,115]⟩ : ByteArray),3,0⟩ : S26) )) (Reps.c3 (show Kd.M k26 _ _ _ (⟨(⟨#[115,101,101]⟩ : ByteArray),3,0⟩ : S26) [.string (⟨#[115,101,101]⟩ : ByteArray),.int .i64 3,.int .i64 0] from (k26_mkM _ _ _ (⟨(⟨#[115,101,101]⟩ : ByteArray),3,0⟩ : S26) )) (Reps.c3 (show Kd.M k26 _ _ _ (⟨(⟨#[115,101,101,119]⟩ : ByteArray),3,0⟩ : S26) [.string (⟨#[115,101,101,119]⟩ : ByteArray),.int .i64 3,.int .i64 0] from (k26_mkM _ _ _ (⟨(⟨#[115,101,101,119]⟩ : ByteArray),3,0⟩ : S26) )) (Reps.c3 (show Kd.M k26 _ _ _ (⟨(⟨#[106,117,109,112]⟩ : ByteArray),40,0⟩ : S26) [.string (⟨#[106,117,109,112]⟩ : ByteArray),.int .i64 40,.int .i64 0] from (k26_mkM _ _ _ (⟨(⟨#[106,117,109,112]⟩ : ByteArray),40,0⟩ : S26) )) (Reps.c3 (show Kd.M k26 _ _ _ (⟨(⟨#[122,101,114,111]⟩ : ByteArray),40,0⟩ : S26) [.string (⟨#[122,101,114,111]⟩ : ByteArray),.int .i64 40,.int .i64 0] from (k26_mkM _ _ _ (⟨(⟨#[122,101,114,111]⟩ : ByteArray),40,0⟩ : S26) )) (Reps.c3 (show Kd.M k26 _ _ _ (⟨(⟨#[99,97,108,108]⟩ : ByteArray),3,4⟩ : S26) [.string (⟨#[99,97,108,108]⟩ : ByteArray),.int .i64 3,.int .i64 4] from (k26_mkM _ _ _ (⟨(⟨#[99,97,108,108]⟩ : ByteArray),3,4⟩ : S26) )) (Reps.c3 (show Kd.M k26 _ _ _ (⟨(⟨#[114,101,116]⟩ : ByteArray),0,0⟩ : S26) [.string (⟨#[114,101,116]⟩ : ByteArray),.int .i64 0,.int .i64 0] from (k26_mkM _ _ _ (⟨(⟨#[114,101,116]⟩ : ByteArray),0,0⟩ : S26) )) (Reps.c3 (show Kd.M k26 _ _ _ (⟨(⟨#[102,97,105,108]⟩ : ByteArray),0,0⟩ : S26) [.string (⟨#[102,97,105,108]⟩ : ByteArray),.int .i64 0,.int .i64 0] from (k26_mkM _ _ _ (⟨(⟨#[102,97,105,108]⟩ : ByteArray),0,0⟩ : S26) )) (Reps.none _ _)))))))))))))))))))))))))))))))))))))));intro v102 w1 ho2 hb hg_ hnew_;clear hg_ hnew_;(first | rw [← Ny101.out] at ho2 | (simp only [Int.reduceToNat] at ho2;rw [← Ny101.out] at ho2));have n0_:=Aside0.mk (Kd.R_lower ho2 (below_size (Up.Bup HB)));have n1_:=Up.BB HB hb;clear HB;have HO103:=n0_;have HB:=n1_;clear n0_ n1_ hb ho2))
 go_ret
 exact ⟨_,by first | rfl | (simp [errW_none,errW_some] <;> rfl) | (simp [*,errW_none,errW_some] <;> rfl),Up.Rup HO103,Up.Bup HB⟩

/-! ### spec_l3Needs: function 30 -/
def spec_l3Needs.l0 : Nat → ByteArray → List (S26) → Int → Option (ByteArray × Int × Int × Bool)
 | 0,_,_,_ => none
 | k + 1,x0,x4,x5 => if x5 < (x4.length : Int) then (if 0 ≤ x5 then (if ((rd_T26 x4 x5).f0).toList = x0.toList then (some ((rd_T26 x4 x5).f0,(rd_T26 x4 x5).f1,(rd_T26 x4 x5).f2,true)) else (spec_l3Needs.l0 k x0 x4 (wrap64 (x5 + 1)))) else (none)) else (some ((⟨#[]⟩ : ByteArray),0,0,false))
def spec_l3Needs.f (k : Nat) (a0 : ByteArray) : Option (ByteArray × Int × Int × Bool):=(spec_l3Table.f).bind fun t105 => (spec_l3Needs.l0 k a0 t105 0)
theorem spec_l3Needs.mono_l : ∀ k,(∀ y0 y1 y2,LeO (spec_l3Needs.l0 k y0 y1 y2) (spec_l3Needs.l0 (k + 1) y0 y1 y2))
 | 0 => fun _ _ _ r h => by simp [spec_l3Needs.l0] at h
 | k + 1 => by
  have ih0:=spec_l3Needs.mono_l k
  ·intro y0 y1 y2
   unfold spec_l3Needs.l0
   repeat' first
   | (with_reducible exact ih0 _ _ _)
   | (with_reducible exact LeO.refl _)
   | (with_reducible exact LeO.none _)
   | (with_reducible refine LeO.ite ?_ ?_)
   | (with_reducible refine LeO.bind ?_ (fun _ => ?_))
   | exact ih0 _ _ _
   | exact LeO.none _
   | refine LeO.ite ?_ ?_
   | refine LeO.bind ?_ (fun _ => ?_)
theorem spec_l3Needs.mono : ∀ a0 k,LeO (spec_l3Needs.f k a0) (spec_l3Needs.f (k + 1) a0):=by
 intro a0 k
 have ih0:=spec_l3Needs.mono_l k
 unfold spec_l3Needs.f
 repeat' first
   | (with_reducible exact ih0 _ _ _)
   | (with_reducible exact LeO.refl _)
   | (with_reducible exact LeO.none _)
   | (with_reducible refine LeO.ite ?_ ?_)
   | (with_reducible refine LeO.bind ?_ (fun _ => ?_))
   | exact ih0 _ _ _
   | exact LeO.none _
   | refine LeO.ite ?_ ?_
   | refine LeO.bind ?_ (fun _ => ?_)
set_option maxHeartbeats 8000000 in
set_option maxRecDepth 100000 in
theorem spec_l3Needs.calls (k : Nat) (a0 : ByteArray) (r1 : ByteArray) (r2 : Int) (r3 : Int) (r4 : Bool) (w : World) (h : spec_l3Needs.f k a0 = some (r1,r2,r3,r4)) :
  Calls Tryd.prog 30 #[.string a0] w fun e w' => e = .returned (.tuple #[.agg #[.string r1,.int .i64 r2,.int .i64 r3],.bool r4]) ∧ Below w.heap.size w w':=by
 have hu26:=Tryd.underlying26
 have HB:=Aside0.mk (Below.refl w.heap.size w)
 have H : ((spec_l3Table.f).bind fun t105 => (spec_l3Needs.l0 k a0 t105 0)) = some (r1,r2,r3,r4):=h
 clear h
 replace H:=Option.bind_eq_some_iff.mp H
 obtain ⟨t105,A20,H⟩:=H
 replace H : (spec_l3Needs.l0 k a0 t105 0) = some (r1,r2,r3,r4):=H
 have A2:=Aside0.mk A20
 clear A20
 have H':=Aside0.mk H
 clear H
 go_enter Tryd.func30,Tryd.ntmps30
 go_wp2_with (first | ((with_reducible refine gate_dst (N:=2) rfl ?_);refine Up.bx 2 26 #[.string (⟨#[]⟩ : ByteArray),.int .i64 0,.int .i64 0] ?_;intro gb104 hg w3 hbox hb;have n0_:=Up.BB HB hb;have n1_:=Aside0.mk (hbox);have n2_:=Up.gw hg HB;have n3_:=Up.gw hg HB;clear HB;have HB:=n0_;have BK104:=n1_;have GW104:=n2_;have GE104:=n3_;clear n0_ n1_ n2_ n3_ hb hbox hg) | ((with_reducible refine gate_callee (f:=36) rfl ?_);refine Up.gl (some 6) Tryd.func36 #[] ?_;(with_reducible refine (spec_l3Table.calls  t105 _ A2.out).mono ?_);rintro e w4 ⟨v106,rfl,ho0,hb⟩;refine ⟨_,rfl,?_⟩;have n0_:=Aside0.mk (Kd.R_lower (Kd.R_newB ho0 (g:=gb104) (o:=.cells #[.string (⟨#[]⟩ : ByteArray),.int .i64 0,.int .i64 0] 26 (0,0)) (Up.Kup BK104)) (below_size (Up.Bx HB)));have n1_:=Up.KB BK104 hb;have n2_:=Aside0.mk (below_step (Up.Bx HB) hb);clear BK104 HB;have HO107:=n0_;have BK104:=n1_;have HB:=n2_;clear n0_ n1_ n2_;(try clear hb);(try clear hb2);(try clear hk);(try clear hi);(try clear ho0)))
 go_loopg [5] k (fun kq v5 w' => ∃ (x5_1 : Int) (x105000_1 : ByteArray) (x105001_1 : Int) (x105002_1 : Int),v5 = .int .i64 x5_1 ∧ Aside0 (spec_l3Needs.l0 kq a0 t105 x5_1 = some (r1,r2,r3,r4)) ∧ Aside0 (kq ≤ k) ∧ Aside0 (Kd.R k26 26 w' w.heap.size (fun k_ => k_ ≠ gb104) v106 t105) ∧ Aside0 (w'.heap[gb104]? = some (.cells #[.string x105000_1,.int .i64 x105001_1,.int .i64 x105002_1] 26 (0,0))) ∧ Aside0 (Below w.heap.size w w'))
 case atStart => exact ⟨(0),((⟨#[]⟩ : ByteArray)),(0),(0),(by first | rfl | (simp;done) | (simp [*];done)),H',⟨Nat.le_refl _⟩,⟨by (with_reducible repeat (first | apply Kd.R_alloc | apply Kd.R_drewN | apply Kd.R_drew));exact Kd.R_mono HO107.out (fun _ hk => hk.2)⟩,⟨by (with_reducible repeat (first | refine blk_drewN ?_ _ | refine blk_drew ?_ | refine blk_alloc ?_ _));exact BK104.out⟩,⟨Up.Bx HB⟩⟩
 case round =>
  clear H'
  try clear p2
  try clear c3
  obtain ⟨x5_1,x105000_1,x105001_1,x105002_1,rfl,HA,HK1,HO_4,BK104,HB⟩:=hrel
  cases gk with
  | zero => exact absurd HA.out (by simp [spec_l3Needs.l0])
  | succ k1 =>
   have H:=HA.out
   clear HA
   simp only [spec_l3Needs.l0] at H
   by_cases c5 : x5_1 < (t105.length : Int)
   ·rw [if_pos c5] at H
    have c5b0 : decide (x5_1 < (t105.length : Int)) = true:=decide_eq_true c5
    clear c5
    by_cases c6 : 0 ≤ x5_1
    ·rw [if_pos c6] at H
     have c6b0 : decide (0 ≤ x5_1) = true:=decide_eq_true c6
     clear c6
     by_cases c7 : ((rd_T26 t105 x5_1).f0).toList = a0.toList
     ·rw [if_pos c7] at H
      have c7b0 : (((rd_T26 t105 x5_1).f0).toList == a0.toList) = true:=beq_iff_eq.mpr c7
      have c7b1 : (((rd_T26 t105 x5_1).f0).toList != a0.toList) = false:=bne_eq_false_iff_eq.mpr c7
      clear c7
      simp only [Option.some.injEq,Prod.mk.injEq] at H
      obtain ⟨rfl,rfl,rfl,rfl⟩:=H
      obtain ⟨Ao8,co8,eo8⟩:=Kd.R_slice HO_4.out
      subst eo8
      have p108 : 0 ≤ (x5_1 : Int):=Up.od
      have q108 : x5_1 < (t105.length : Int):=Up.od
      obtain ⟨ad108,e108,hx108_0,hx108_1,hx108_2⟩:=at_T26 (Kd.R_reads' HO_4.out).2.2 x5_1 p108 q108
      cases e108
      replace p108:=eq_true p108
      replace q108:=eq_true q108
      have p109 : 0 ≤ (x5_1 : Int):=Up.od
      have q109 : x5_1 < (t105.length : Int):=Up.od
      obtain ⟨ad109,e109,hx109_0,hx109_1,hx109_2⟩:=at_T26 (Kd.R_reads' HO_4.out).2.2 x5_1 p109 q109
      obtain rfl : ad108 = ad109:=(by injection e109)
      replace p109:=eq_true p109
      replace q109:=eq_true q109
      have hcz9_0:=Up.c0 BK104
      have hcz9_1:=Up.c1 BK104
      have hcz9_2:=Up.c2 BK104
      have hfz9_0:=blk_frozen BK104.out 0
      have hfz9_1:=blk_frozen BK104.out 1
      have hfz9_2:=blk_frozen BK104.out 2
      go_wp2
      refine bodyPost_ret (results_ct rfl _ _ gb104 26 #[.string ((rd_T26 t105 x5_1).f0),.int .i64 ((rd_T26 t105 x5_1).f1),.int .i64 ((rd_T26 t105 x5_1).f2)] (0,0) _ rfl (Up.Kx BK104) Tryd.underlying26 rfl (by kernel_rfl)) rfl ?_
      exact Up.e1 (Up.Bx HB)
     ·rw [if_neg c7] at H
      have c7b0 : (((rd_T26 t105 x5_1).f0).toList == a0.toList) = false:=beq_eq_false_iff_ne.mpr c7
      have c7b1 : (((rd_T26 t105 x5_1).f0).toList != a0.toList) = true:=bne_iff_ne.mpr c7
      have H':=Aside0.mk H
      clear H
      obtain ⟨Ao10,co10,eo10⟩:=Kd.R_slice HO_4.out
      subst eo10
      have p108 : 0 ≤ (x5_1 : Int):=Up.od
      have q108 : x5_1 < (t105.length : Int):=Up.od
      obtain ⟨ad108,e108,hx108_0,hx108_1,hx108_2⟩:=at_T26 (Kd.R_reads' HO_4.out).2.2 x5_1 p108 q108
      cases e108
      replace p108:=eq_true p108
      replace q108:=eq_true q108
      go_wp2
      go_roundg k1
      case measure => have:=HK1.out;omega
      case rel => exact ⟨(wrap64 (x5_1 + 1)),(x105000_1),(x105001_1),(x105002_1),(by first | rfl | (simp;done) | (simp [*];done)),H',⟨by have:=HK1.out;omega⟩,⟨Up.Rup HO_4⟩,⟨by (with_reducible repeat (first | refine blk_drewN ?_ _ | refine blk_drew ?_ | refine blk_alloc ?_ _));exact BK104.out⟩,⟨Up.Bx HB⟩⟩
    ·rw [if_neg c6] at H
     exact absurd H (by simp)
   ·rw [if_neg c5] at H
    have c5b0 : decide (x5_1 < (t105.length : Int)) = false:=decide_eq_false c5
    clear c5
    simp only [Option.some.injEq,Prod.mk.injEq] at H
    obtain ⟨rfl,rfl,rfl,rfl⟩:=H
    obtain ⟨Ao11,co11,eo11⟩:=Kd.R_slice HO_4.out
    subst eo11
    have hcz12_0:=Up.c0 BK104
    have hcz12_1:=Up.c1 BK104
    have hcz12_2:=Up.c2 BK104
    have hfz12_0:=blk_frozen BK104.out 0
    have hfz12_1:=blk_frozen BK104.out 1
    have hfz12_2:=blk_frozen BK104.out 2
    go_wp2
    refine bodyPost_ret (results_ct rfl _ _ gb104 26 #[.string (⟨#[]⟩ : ByteArray),.int .i64 0,.int .i64 0] (0,0) _ rfl (Up.Kx BK104) Tryd.underlying26 rfl (by kernel_rfl)) rfl ?_
    exact Up.e1 (Up.Bx HB)

/-! ### spec_l6In: function 50 -/
def spec_l6In.f (a0 : Int) (a1 : Int) (a2 : Int) : Option (Bool):=if a0 ≥ a1 then (some (decide (a0 ≤ a2))) else (some false)
set_option maxHeartbeats 8000000 in
set_option maxRecDepth 100000 in
theorem spec_l6In.calls (a0 : Int) (a1 : Int) (a2 : Int) (r : Bool) (w : World) (h : spec_l6In.f a0 a1 a2 = some r) :
  Calls Tryd.prog 50 #[.int .i64 a0,.int .i64 a1,.int .i64 a2] w fun e w' => e = .returned (.bool r) ∧ Drawn0 w w':=by
 have H : (if a0 ≥ a1 then (some (decide (a0 ≤ a2))) else (some false)) = some r:=h
 clear h
 by_cases c4 : a0 ≥ a1
 ·rw [if_pos c4] at H
  have c4b0 : decide (a1 ≤ a0) = true:=decide_eq_true c4
  clear c4
  obtain rfl:=Option.some.inj H
  go_enter Tryd.func50,Tryd.ntmps50
  go_wp2
  go_ret
  exact Up.e2
 ·rw [if_neg c4] at H
  have c4b0 : decide (a1 ≤ a0) = false:=decide_eq_false c4
  clear c4
  obtain rfl:=Option.some.inj H
  go_enter Tryd.func50,Tryd.ntmps50
  go_wp2
  go_ret
  exact Up.e2

/-! ### spec_l3Fits: function 31 -/
def spec_l3Fits.f (a0 : Int) (a1 : Int) : Option (Bool):=if a1 = 0 then (some (a0 == 0)) else ((spec_l6In.f a0 0 (wrap64 (a1 - 1))).bind fun t110 => (some t110))
set_option maxHeartbeats 8000000 in
set_option maxRecDepth 100000 in
theorem spec_l3Fits.calls (a0 : Int) (a1 : Int) (r : Bool) (w : World) (h : spec_l3Fits.f a0 a1 = some r) :
  Calls Tryd.prog 31 #[.int .i64 a0,.int .i64 a1] w fun e w' => e = .returned (.bool r) ∧ Drawn0 w w':=by
 have H : (if a1 = 0 then (some (a0 == 0)) else ((spec_l6In.f a0 0 (wrap64 (a1 - 1))).bind fun t110 => (some t110))) = some r:=h
 clear h
 by_cases c3 : a1 = 0
 ·rw [if_pos c3] at H
  have c3b0 : (a1 == 0) = true:=beq_iff_eq.mpr c3
  have c3b1 : (a1 != 0) = false:=bne_eq_false_iff_eq.mpr c3
  clear c3
  obtain rfl:=Option.some.inj H
  go_enter Tryd.func31,Tryd.ntmps31
  go_wp2
  go_ret
  exact Up.e2
 ·rw [if_neg c3] at H
  have c3b0 : (a1 == 0) = false:=beq_eq_false_iff_ne.mpr c3
  have c3b1 : (a1 != 0) = true:=bne_iff_ne.mpr c3
  replace H:=Option.bind_eq_some_iff.mp H
  obtain ⟨t110,A40,H⟩:=H
  replace H : (some t110) = some r:=H
  have A4:=Aside0.mk A40
  clear A40
  obtain rfl:=Option.some.inj H
  go_enter Tryd.func31,Tryd.ntmps31
  go_wp2_with (first | ((with_reducible refine gate_callee (f:=50) rfl ?_);refine Up.gl (some 12) Tryd.func50 #[.int .i64 a0,.int .i64 0,.int .i64 (wrap64 (a1 - 1))] ?_;(with_reducible refine (spec_l6In.calls a0 0 (wrap64 (a1 - 1)) t110 _ A4.out).mono ?_);rintro e w' ⟨rfl,⟨nd,rfl⟩⟩;refine ⟨_,rfl,?_⟩))
  go_ret
  exact Up.e2

/-! ### spec_InsOk: function 12 -/
def spec_InsOk.f (k : Nat) (a0_0 : ByteArray) (a0_1 : Int) (a0_2 : Int) : Option (Bool):=(spec_l3Needs.f k a0_0).bind fun bt112 => (if bt112.2.2.2 = true then ((spec_l3Fits.f a0_1 bt112.2.1).bind fun t117 => (if t117 = true then ((spec_l3Fits.f a0_2 bt112.2.2.1).bind fun t118 => (some t118)) else (some false))) else (some false))
theorem spec_InsOk.mono : ∀ a0 a1 a2 k,LeO (spec_InsOk.f k a0 a1 a2) (spec_InsOk.f (k + 1) a0 a1 a2):=by
 intro a0 a1 a2 k
 unfold spec_InsOk.f
 repeat' first
   | (with_reducible exact spec_l3Needs.mono _ _)
   | (with_reducible exact LeO.refl _)
   | (with_reducible exact LeO.none _)
   | (with_reducible refine LeO.ite ?_ ?_)
   | (with_reducible refine LeO.bind ?_ (fun _ => ?_))
   | exact spec_l3Needs.mono _ _
   | exact LeO.none _
   | refine LeO.ite ?_ ?_
   | refine LeO.bind ?_ (fun _ => ?_)
set_option maxHeartbeats 8000000 in
set_option maxRecDepth 100000 in
theorem spec_InsOk.calls (k : Nat) (a0_0 : ByteArray) (a0_1 : Int) (a0_2 : Int) (r : Bool) (w : World) (h : spec_InsOk.f k a0_0 a0_1 a0_2 = some r) :
  Calls Tryd.prog 12 #[.agg #[.string a0_0,.int .i64 a0_1,.int .i64 a0_2]] w fun e w' => e = .returned (.bool r) ∧ Below w.heap.size w w':=by
 have hu26:=Tryd.underlying26
 have HB:=Aside0.mk (Below.refl w.heap.size w)
 have H : ((spec_l3Needs.f k a0_0).bind fun bt112 => (if bt112.2.2.2 = true then ((spec_l3Fits.f a0_1 bt112.2.1).bind fun t117 => (if t117 = true then ((spec_l3Fits.f a0_2 bt112.2.2.1).bind fun t118 => (some t118)) else (some false))) else (some false))) = some r:=h
 clear h
 replace H:=Option.bind_eq_some_iff.mp H
 obtain ⟨⟨t112,t113,t114,t115⟩,A20,H⟩:=H
 replace H : (if t115 = true then ((spec_l3Fits.f a0_1 t113).bind fun t117 => (if t117 = true then ((spec_l3Fits.f a0_2 t114).bind fun t118 => (some t118)) else (some false))) else (some false)) = some r:=H
 have A2:=Aside0.mk A20
 clear A20
 by_cases c3 : t115 = true
 ·subst c3
  have H1 : ((spec_l3Fits.f a0_1 t113).bind fun t117 => (if t117 = true then ((spec_l3Fits.f a0_2 t114).bind fun t118 => (some t118)) else (some false))) = some r:=by rw [if_pos rfl] at H;exact H
  clear H
  have H:=H1
  clear H1
  replace H:=Option.bind_eq_some_iff.mp H
  obtain ⟨t117,A40,H⟩:=H
  replace H : (if t117 = true then ((spec_l3Fits.f a0_2 t114).bind fun t118 => (some t118)) else (some false)) = some r:=H
  have A4:=Aside0.mk A40
  clear A40
  by_cases c5 : t117 = true
  ·subst c5
   have H1 : ((spec_l3Fits.f a0_2 t114).bind fun t118 => (some t118)) = some r:=by rw [if_pos rfl] at H;exact H
   clear H
   have H:=H1
   clear H1
   replace H:=Option.bind_eq_some_iff.mp H
   obtain ⟨t118,A60,H⟩:=H
   replace H : (some t118) = some r:=H
   have A6:=Aside0.mk A60
   clear A60
   obtain rfl:=Option.some.inj H
   go_enter Tryd.func12,Tryd.ntmps12
   go_wp2_with (first | ((with_reducible refine gate_dst (N:=1) rfl ?_);refine Up.bx 1 26 #[.string a0_0,.int .i64 a0_1,.int .i64 a0_2] ?_;intro gb111 hg w7 hbox hb;have n0_:=Up.BB HB hb;have n1_:=Aside0.mk (hbox);have n2_:=Up.gw hg HB;have n3_:=Up.gw hg HB;clear HB;have HB:=n0_;have BK111:=n1_;have GW111:=n2_;have GE111:=n3_;clear n0_ n1_ n2_ n3_ hb hbox hg;have hcz8_0:=Up.c0 BK111;have hcz8_1:=Up.c1 BK111;have hcz8_2:=Up.c2 BK111;have hfz8_0:=blk_frozen BK111.out 0;have hfz8_1:=blk_frozen BK111.out 1;have hfz8_2:=blk_frozen BK111.out 2) | ((with_reducible refine gate_callee (f:=30) rfl ?_);refine Up.gl (some 8) Tryd.func30 #[.string a0_0] ?_;(with_reducible refine (spec_l3Needs.calls k a0_0 t112 t113 t114 true _ A2.out).mono ?_);rintro e w9 ⟨rfl,hb⟩;refine ⟨_,rfl,?_⟩;have n0_:=Up.KB BK111 hb;have n1_:=Aside0.mk (below_step (Up.Bx HB) hb);clear BK111 HB;have BK111:=n0_;have HB:=n1_;clear n0_ n1_;(try clear hb);(try clear hb2);(try clear hk);(try clear hi)) | ((with_reducible refine gate_dst (N:=3) rfl ?_);refine Up.bx 3 26 #[.string (⟨#[]⟩ : ByteArray),.int .i64 0,.int .i64 0] ?_;intro gb116 hg w10 hbox hb;have n0_:=Up.KB BK111 hb;have n1_:=Aside0.mk (below_step (Up.Bx HB) hb);have n2_:=Aside0.mk (hbox);have n3_:=Up.gw hg HB;have n4_:=Up.gw hg HB;have n5_:=Up.nl hg BK111;have n6_:=Up.ng hg BK111;clear BK111 HB;have BK111:=n0_;have HB:=n1_;have BK116:=n2_;have GW116:=n3_;have GE116:=n4_;have NB111_116:=n5_;have NB116_111:=n6_;clear n0_ n1_ n2_ n3_ n4_ n5_ n6_ hb hbox hg;have hnb11:=NB116_111.out;have hnc11:=NB111_116.out;have hcz12_0:=Up.c0 BK116;have hcz12_1:=Up.c1 BK116;have hcz12_2:=Up.c2 BK116;have hfz12_0:=blk_frozen BK116.out 0;have hfz12_1:=blk_frozen BK116.out 1;have hfz12_2:=blk_frozen BK116.out 2;have hcz13_0:=Up.c0 BK111;have hcz13_1:=Up.c1 BK111;have hcz13_2:=Up.c2 BK111;have hfz13_0:=blk_frozen BK111.out 0;have hfz13_1:=blk_frozen BK111.out 1;have hfz13_2:=blk_frozen BK111.out 2) | (go_at_call 31;(with_reducible refine (spec_l3Fits.calls a0_1 t113 true _ A4.out).mono ?_);rintro e w' ⟨rfl,⟨nd,rfl⟩⟩) | (go_at_call 31;(with_reducible refine (spec_l3Fits.calls a0_2 t114 t118 _ A6.out).mono ?_);rintro e w' ⟨rfl,⟨nd,rfl⟩⟩))
   go_ret
   exact Up.e1 (Up.Bx HB)
  ·replace c5:=Bool.eq_false_iff.mpr c5
   subst c5
   have H1 : (some false) = some r:=by rw [if_neg (show ¬ (false = true) by decide)] at H;exact H
   clear H
   have H:=H1
   clear H1
   obtain rfl:=Option.some.inj H
   go_enter Tryd.func12,Tryd.ntmps12
   go_wp2_with (first | ((with_reducible refine gate_dst (N:=1) rfl ?_);refine Up.bx 1 26 #[.string a0_0,.int .i64 a0_1,.int .i64 a0_2] ?_;intro gb111 hg w14 hbox hb;have n0_:=Up.BB HB hb;have n1_:=Aside0.mk (hbox);have n2_:=Up.gw hg HB;have n3_:=Up.gw hg HB;clear HB;have HB:=n0_;have BK111:=n1_;have GW111:=n2_;have GE111:=n3_;clear n0_ n1_ n2_ n3_ hb hbox hg;have hcz15_0:=Up.c0 BK111;have hcz15_1:=Up.c1 BK111;have hcz15_2:=Up.c2 BK111;have hfz15_0:=blk_frozen BK111.out 0;have hfz15_1:=blk_frozen BK111.out 1;have hfz15_2:=blk_frozen BK111.out 2) | ((with_reducible refine gate_callee (f:=30) rfl ?_);refine Up.gl (some 8) Tryd.func30 #[.string a0_0] ?_;(with_reducible refine (spec_l3Needs.calls k a0_0 t112 t113 t114 true _ A2.out).mono ?_);rintro e w16 ⟨rfl,hb⟩;refine ⟨_,rfl,?_⟩;have n0_:=Up.KB BK111 hb;have n1_:=Aside0.mk (below_step (Up.Bx HB) hb);clear BK111 HB;have BK111:=n0_;have HB:=n1_;clear n0_ n1_;(try clear hb);(try clear hb2);(try clear hk);(try clear hi)) | ((with_reducible refine gate_dst (N:=3) rfl ?_);refine Up.bx 3 26 #[.string (⟨#[]⟩ : ByteArray),.int .i64 0,.int .i64 0] ?_;intro gb116 hg w17 hbox hb;have n0_:=Up.KB BK111 hb;have n1_:=Aside0.mk (below_step (Up.Bx HB) hb);have n2_:=Aside0.mk (hbox);have n3_:=Up.gw hg HB;have n4_:=Up.gw hg HB;have n5_:=Up.nl hg BK111;have n6_:=Up.ng hg BK111;clear BK111 HB;have BK111:=n0_;have HB:=n1_;have BK116:=n2_;have GW116:=n3_;have GE116:=n4_;have NB111_116:=n5_;have NB116_111:=n6_;clear n0_ n1_ n2_ n3_ n4_ n5_ n6_ hb hbox hg;have hnb18:=NB116_111.out;have hnc18:=NB111_116.out;have hcz19_0:=Up.c0 BK116;have hcz19_1:=Up.c1 BK116;have hcz19_2:=Up.c2 BK116;have hfz19_0:=blk_frozen BK116.out 0;have hfz19_1:=blk_frozen BK116.out 1;have hfz19_2:=blk_frozen BK116.out 2;have hcz20_0:=Up.c0 BK111;have hcz20_1:=Up.c1 BK111;have hcz20_2:=Up.c2 BK111;have hfz20_0:=blk_frozen BK111.out 0;have hfz20_1:=blk_frozen BK111.out 1;have hfz20_2:=blk_frozen BK111.out 2) | (go_at_call 31;(with_reducible refine (spec_l3Fits.calls a0_1 t113 false _ A4.out).mono ?_);rintro e w' ⟨rfl,⟨nd,rfl⟩⟩))
   go_ret
   exact Up.e1 (Up.Bx HB)
 ·replace c3:=Bool.eq_false_iff.mpr c3
  subst c3
  have H1 : (some false) = some r:=by rw [if_neg (show ¬ (false = true) by decide)] at H;exact H
  clear H
  have H:=H1
  clear H1
  obtain rfl:=Option.some.inj H
  go_enter Tryd.func12,Tryd.ntmps12
  go_wp2_with (first | ((with_reducible refine gate_dst (N:=1) rfl ?_);refine Up.bx 1 26 #[.string a0_0,.int .i64 a0_1,.int .i64 a0_2] ?_;intro gb111 hg w21 hbox hb;have n0_:=Up.BB HB hb;have n1_:=Aside0.mk (hbox);have n2_:=Up.gw hg HB;have n3_:=Up.gw hg HB;clear HB;have HB:=n0_;have BK111:=n1_;have GW111:=n2_;have GE111:=n3_;clear n0_ n1_ n2_ n3_ hb hbox hg;have hcz22_0:=Up.c0 BK111;have hcz22_1:=Up.c1 BK111;have hcz22_2:=Up.c2 BK111;have hfz22_0:=blk_frozen BK111.out 0;have hfz22_1:=blk_frozen BK111.out 1;have hfz22_2:=blk_frozen BK111.out 2) | ((with_reducible refine gate_callee (f:=30) rfl ?_);refine Up.gl (some 8) Tryd.func30 #[.string a0_0] ?_;(with_reducible refine (spec_l3Needs.calls k a0_0 t112 t113 t114 false _ A2.out).mono ?_);rintro e w23 ⟨rfl,hb⟩;refine ⟨_,rfl,?_⟩;have n0_:=Up.KB BK111 hb;have n1_:=Aside0.mk (below_step (Up.Bx HB) hb);clear BK111 HB;have BK111:=n0_;have HB:=n1_;clear n0_ n1_;(try clear hb);(try clear hb2);(try clear hk);(try clear hi)) | ((with_reducible refine gate_dst (N:=3) rfl ?_);refine Up.bx 3 26 #[.string (⟨#[]⟩ : ByteArray),.int .i64 0,.int .i64 0] ?_;intro gb116 hg w24 hbox hb;have n0_:=Up.KB BK111 hb;have n1_:=Aside0.mk (below_step (Up.Bx HB) hb);have n2_:=Aside0.mk (hbox);have n3_:=Up.gw hg HB;have n4_:=Up.gw hg HB;have n5_:=Up.nl hg BK111;have n6_:=Up.ng hg BK111;clear BK111 HB;have BK111:=n0_;have HB:=n1_;have BK116:=n2_;have GW116:=n3_;have GE116:=n4_;have NB111_116:=n5_;have NB116_111:=n6_;clear n0_ n1_ n2_ n3_ n4_ n5_ n6_ hb hbox hg;have hnb25:=NB116_111.out;have hnc25:=NB111_116.out;have hcz26_0:=Up.c0 BK116;have hcz26_1:=Up.c1 BK116;have hcz26_2:=Up.c2 BK116;have hfz26_0:=blk_frozen BK116.out 0;have hfz26_1:=blk_frozen BK116.out 1;have hfz26_2:=blk_frozen BK116.out 2))
  go_ret
  exact Up.e1 (Up.Bx HB)

/-! ### strings_Fields: function 51 -/
theorem tabIs_below {P : Program} {w W : World} {name : String} {k : IntKind} {zs : List Int} (h : Lib.TabIs P w name k zs) (hb : Below w.heap.size w W) : Lib.TabIs P W name k zs := by
  unfold Lib.TabIs World.var? at h ⊢
  cases hg : P.globalNamed name with
  | none => rw [hg] at h; cases h
  | some g =>
    rw [hg] at h
    simp only [Option.bind_some] at h ⊢
    have hlt : g < w.heap.size := by
      rcases Nat.lt_or_ge g w.heap.size with h' | h'
      · exact h'
      · rw [Array.getElem?_eq_none h'] at h; cases h
    rw [hb.block g hlt]
    exact h
/-- What stands in the world ahead of the call, and is asked by what it comes to in the library. -/
structure Tab (w : World) : Prop where
  f1 : Lib.TabIs Tryd.prog w "strings.asciiSpace" .u8 Lib.asciiSpaceTab
  f2 : Lib.TabIs Tryd.prog w "internal/strconv.uint64pow10" .u64 Lib.pow10Tab
theorem Tab.below {w W : World} (h : Tab w) (hb : Below w.heap.size w W) : Tab W := ⟨tabIs_below h.f1 hb, tabIs_below h.f2 hb⟩

def asciiB (s : ByteArray) : Bool := s.data.toList.all fun b => decide (b.toNat < 128)
def strings_Fields.f (s : ByteArray) : Option (List ByteArray) := if s.size < 1000000 ∧ asciiB s = true ∧ (Lib.fields s.data.toList).length ≤ 1000000 then some ((Lib.fields s.data.toList).map fun l => ⟨l.toArray⟩) else none
theorem strings_Fields.calls (a0 : ByteArray) (r : List ByteArray) (w : World) (hT_ : Tab w) (h : strings_Fields.f a0 = some r) :
    Calls Tryd.prog 51 #[.string a0] w fun e w' => ∃ v0_ : Value, e = .returned (v0_) ∧ Kd.R Kd.string 9 w' w.heap.size (fun _ => True) v0_ r ∧ Below w.heap.size w w' := by
  unfold strings_Fields.f at h
  split at h
  · rename_i hc
    obtain rfl := Option.some.inj h
    have ha : ∀ (j : Nat) b, a0.data.toList[j]? = some b → b.toNat < 128 := by
      intro j b hb
      have h2 := List.all_eq_true.1 hc.2.1 b (List.mem_of_getElem? hb)
      exact of_decide_eq_true h2
    refine (Tryd.strings_Fields_laid a0 w (by omega) ha hT_.f1).mono ?_
    rintro e w' ⟨rfl, rfl⟩
    refine ⟨_, rfl, Kd.R_of_own ?_ (fun _ _ => trivial), below_alloc (Below.refl _ _) _⟩
    have hl := hc.2.2
    refine ⟨by simp [encs_length], .inr ⟨w.heap.size, _, _, by rw [List.length_map], Nat.le_refl _, heap_alloc_new w _, Nat.le_refl _, ?_, ?_, ?_⟩⟩
    · have hm : (1000000 : Nat) ≤ maxLen := by decide
      exact Nat.le_trans (by simpa using hl) hm
    · simp
    · rw [List.take_of_length_le (by simp)]
      simp [encs]
  · cases h

/-! ### impl_insForms: function 34 -/
mutual
def impl_insForms.l0 : Nat → List (S46) → List ByteArray → Int → Int → Option ((List (S46)))
 | 0,_,_,_,_ => none
 | k + 1,x1,x8,x9,x10 => if x10 < x9 then (if 0 ≤ x10 then (if x10 < (x8.length : Int) then (if x1.length < 4398046511104 then (impl_insForms.l0 k (x1 ++ [(⟨rdOf ByteArray.empty x8 x10,0,0⟩ : S46)]) x8 x9 (wrap64 (x10 + 1))) else (none)) else (none)) else (none)) else ((some (([(⟨(⟨#[99,111,112,121]⟩ : ByteArray),6,0⟩ : S46),(⟨(⟨#[109,111,118,101]⟩ : ByteArray),6,0⟩ : S46),(⟨(⟨#[112,117,116]⟩ : ByteArray),6,0⟩ : S46),(⟨(⟨#[100,114,111,112]⟩ : ByteArray),0,0⟩ : S46)] : List (S46)) : List (S46))).bind fun y129 => (if x1.length + y129.length < 4398046511104 then ((some (x1 ++ y129 : List (S46))).bind fun y132 => ((some (([(⟨(⟨#[112,97,99,107]⟩ : ByteArray),3,0⟩ : S46),(⟨(⟨#[117,110,112,97,99,107]⟩ : ByteArray),3,0⟩ : S46),(⟨(⟨#[108,101,110,100]⟩ : ByteArray),6,0⟩ : S46),(⟨(⟨#[108,101,110,100,119]⟩ : ByteArray),6,0⟩ : S46),(⟨(⟨#[102,105,101,108,100]⟩ : ByteArray),3,3⟩ : S46)] : List (S46)) : List (S46))).bind fun y135 => (if y132.length + y135.length < 4398046511104 then ((some (y132 ++ y135 : List (S46))).bind fun y138 => ((some (([(⟨(⟨#[114,101,97,100]⟩ : ByteArray),0,0⟩ : S46),(⟨(⟨#[112,101,101,107]⟩ : ByteArray),0,0⟩ : S46),(⟨(⟨#[119,114,105,116,101]⟩ : ByteArray),0,0⟩ : S46),(⟨(⟨#[102,114,101,101,122,101]⟩ : ByteArray),0,0⟩ : S46)] : List (S46)) : List (S46))).bind fun y141 => (if y138.length + y141.length < 4398046511104 then ((strings_Fields.f (⟨#[107,101,101,112,32,116,97,107,101,32,104,97,115,32,115,101,101,32,115,101,101,119]⟩ : ByteArray)).bind fun t147 => (impl_insForms.l1 k (y138 ++ y141) t147 (t147.length : Int) 0)) else (none)))) else (none)))) else (none)))
def impl_insForms.l1 : Nat → List (S46) → List ByteArray → Int → Int → Option ((List (S46)))
 | 0,_,_,_,_ => none
 | k + 1,x1,x42,x43,x44 => if x44 < x43 then (if 0 ≤ x44 then (if x44 < (x42.length : Int) then (if x1.length < 4398046511104 then (impl_insForms.l1 k (x1 ++ [(⟨rdOf ByteArray.empty x42 x44,3,0⟩ : S46)]) x42 x43 (wrap64 (x44 + 1))) else (none)) else (none)) else (none)) else ((some (([(⟨(⟨#[106,117,109,112]⟩ : ByteArray),40,0⟩ : S46),(⟨(⟨#[122,101,114,111]⟩ : ByteArray),40,0⟩ : S46),(⟨(⟨#[99,97,108,108]⟩ : ByteArray),3,4⟩ : S46),(⟨(⟨#[114,101,116]⟩ : ByteArray),0,0⟩ : S46),(⟨(⟨#[102,97,105,108]⟩ : ByteArray),0,0⟩ : S46)] : List (S46)) : List (S46))).bind fun y154 => (if x1.length + y154.length < 4398046511104 then (some (x1 ++ y154)) else (none)))
end
def impl_insForms.f (k : Nat)  : Option ((List (S46))):=(strings_Fields.f (⟨#[116,114,117,101,32,102,97,108,115,101,32,109,101,32,97,100,100,32,115,117,98,32,109,117,108,32,100,105,118,32,109,111,100,32,108,101,115,115,32,115,97,109,101,32,97,110,100,32,111,114,32,110,111,116]⟩ : ByteArray)).bind fun t122 => (impl_insForms.l0 k (([(⟨(⟨#[110,117,109]⟩ : ByteArray),1000001,0⟩ : S46)] : List (S46))) t122 (t122.length : Int) 0)
theorem impl_insForms.mono_l : ∀ k,(∀ y0 y1 y2 y3,LeO (impl_insForms.l0 k y0 y1 y2 y3) (impl_insForms.l0 (k + 1) y0 y1 y2 y3)) ∧ (∀ y0 y1 y2 y3,LeO (impl_insForms.l1 k y0 y1 y2 y3) (impl_insForms.l1 (k + 1) y0 y1 y2 y3))
 | 0 => ⟨fun _ _ _ _ r h => by simp [impl_insForms.l0] at h,fun _ _ _ _ r h => by simp [impl_insForms.l1] at h⟩
 | k + 1 => by
  obtain ⟨ih0,ih1⟩:=impl_insForms.mono_l k
  refine ⟨?_,?_⟩
  ·intro y0 y1 y2 y3
   unfold impl_insForms.l0
   repeat' first
   | (with_reducible exact ih0 _ _ _ _)
   | (with_reducible exact ih1 _ _ _ _)
   | (with_reducible exact LeO.refl _)
   | (with_reducible exact LeO.none _)
   | (with_reducible refine LeO.ite ?_ ?_)
   | (with_reducible refine LeO.bind ?_ (fun _ => ?_))
   | exact ih0 _ _ _ _
   | exact ih1 _ _ _ _
   | exact LeO.none _
   | refine LeO.ite ?_ ?_
   | refine LeO.bind ?_ (fun _ => ?_)
  ·intro y0 y1 y2 y3
   unfold impl_insForms.l1
   repeat' first
   | (with_reducible exact ih0 _ _ _ _)
   | (with_reducible exact ih1 _ _ _ _)
   | (with_reducible exact LeO.refl _)
   | (with_reducible exact LeO.none _)
   | (with_reducible refine LeO.ite ?_ ?_)
   | (with_reducible refine LeO.bind ?_ (fun _ => ?_))
   | exact ih0 _ _ _ _
   | exact ih1 _ _ _ _
   | exact LeO.none _
   | refine LeO.ite ?_ ?_
   | refine LeO.bind ?_ (fun _ => ?_)
theorem impl_insForms.mono : ∀ k,LeO (impl_insForms.f k ) (impl_insForms.f (k + 1) ):=by
 intro  k
 obtain ⟨ih0,ih1⟩:=impl_insForms.mono_l k
 unfold impl_insForms.f
 repeat' first
   | (with_reducible exact ih0 _ _ _ _)
   | (with_reducible exact ih1 _ _ _ _)
   | (with_reducible exact LeO.refl _)
   | (with_reducible exact LeO.none _)
   | (with_reducible refine LeO.ite ?_ ?_)
   | (with_reducible refine LeO.bind ?_ (fun _ => ?_))
   | exact ih0 _ _ _ _
   | exact ih1 _ _ _ _
   | exact LeO.none _
   | refine LeO.ite ?_ ?_
   | refine LeO.bind ?_ (fun _ => ?_)
set_option maxHeartbeats 8000000 in
set_option maxRecDepth 100000 in
theorem impl_insForms.calls (k : Nat)  (r : List (S46)) (w : World) (hT_ : Tab w) (h : impl_insForms.f k  = some r) :
  Calls Tryd.prog 34 #[] w fun e w' => ∃ v0_ : Value,e = .returned (v0_) ∧ Kd.R k46 46 w' w.heap.size (fun _ => True) v0_ r ∧ Below w.heap.size w w':=by
 have hu46:=Tryd.underlying46
 have HB:=Aside0.mk (Below.refl w.heap.size w)
 have H : ((strings_Fields.f (⟨#[116,114,117,101,32,102,97,108,115,101,32,109,101,32,97,100,100,32,115,117,98,32,109,117,108,32,100,105,118,32,109,111,100,32,108,101,115,115,32,115,97,109,101,32,97,110,100,32,111,114,32,110,111,116]⟩ : ByteArray)).bind fun t122 => (impl_insForms.l0 k (([(⟨(⟨#[110,117,109]⟩ : ByteArray),1000001,0⟩ : S46)] : List (S46))) t122 (t122.length : Int) 0)) = some r:=h
 clear h
 obtain ⟨y119,hy119⟩ : ∃ y_ : List (S46),y_ = (([(⟨(⟨#[110,117,109]⟩ : ByteArray),1000001,0⟩ : S46)] : List (S46))):=⟨_,rfl⟩
 replace H : ((strings_Fields.f (⟨#[116,114,117,101,32,102,97,108,115,101,32,109,101,32,97,100,100,32,115,117,98,32,109,117,108,32,100,105,118,32,109,111,100,32,108,101,115,115,32,115,97,109,101,32,97,110,100,32,111,114,32,110,111,116]⟩ : ByteArray)).bind fun t122 => (impl_insForms.l0 k y119 t122 (t122.length : Int) 0)) = some r:=by first | (rw [hy119];with_reducible exact H) | (have H2_:=(Option.bind_some _ _).symm.trans H;rw [hy119];with_reducible exact H2_) | (have H2_:=(Option.bind_some _ _).symm.trans H;with_reducible exact H2_) | with_reducible exact H | (rw [hy119];exact H) | exact H
 have Ny119:=Aside0.mk hy119
 clear hy119
 replace H:=Option.bind_eq_some_iff.mp H
 obtain ⟨t122,A10,H⟩:=H
 replace H : (impl_insForms.l0 k y119 t122 (t122.length : Int) 0) = some r:=H
 have A1:=Aside0.mk A10
 clear A10
 have H':=Aside0.mk H
 clear H
 go_enter Tryd.func34,Tryd.ntmps34
 go_wp2_with (first | ((with_reducible refine gate_dst (N:=7) rfl ?_);refine Kd.R_lit k46 _ 46 ?hg (N:=7) ?hd (xs:=([(⟨(⟨#[110,117,109]⟩ : ByteArray),1000001,0⟩ : S46)] : List (S46))) (inner:=[.string (⟨#[110,117,109]⟩ : ByteArray),.int .i64 1000001,.int .i64 0]) (ok:=fun _ => True) (okp:=fun _ => True) ?hr ?hp (fun _ hk => hk) trivial (Below.refl _ _) (Nat.le_refl _) (by simp) ?_;(case hd => rfl);(case hg => rfl);(case hr => first | (go_simp;done) | (go_simp;rfl));(case hp => exact (Reps.c3 (show Kd.M k46 _ _ _ (⟨(⟨#[110,117,109]⟩ : ByteArray),1000001,0⟩ : S46) [.string (⟨#[110,117,109]⟩ : ByteArray),.int .i64 1000001,.int .i64 0] from (k46_mkM _ _ _ (⟨(⟨#[110,117,109]⟩ : ByteArray),1000001,0⟩ : S46) )) (Reps.none _ _)));intro v120 w2 ho3 hb hg_ hnew_;clear hg_ hnew_;(first | rw [← Ny119.out] at ho3 | (simp only [Int.reduceToNat] at ho3;rw [← Ny119.out] at ho3));have n0_:=Aside0.mk (Kd.R_lower ho3 (below_size (Up.Bup HB)));have n1_:=Up.BB HB hb;clear HB;have HO121:=n0_;have HB:=n1_;clear n0_ n1_ hb ho3) | ((with_reducible refine gate_callee (f:=51) rfl ?_);refine Up.gl (some 8) Tryd.func51 #[.string (⟨#[116,114,117,101,32,102,97,108,115,101,32,109,101,32,97,100,100,32,115,117,98,32,109,117,108,32,100,105,118,32,109,111,100,32,108,101,115,115,32,115,97,109,101,32,97,110,100,32,111,114,32,110,111,116]⟩ : ByteArray)] ?_;(with_reducible refine (strings_Fields.calls (hT_:=?tab1) (⟨#[116,114,117,101,32,102,97,108,115,101,32,109,101,32,97,100,100,32,115,117,98,32,109,117,108,32,100,105,118,32,109,111,100,32,108,101,115,115,32,115,97,109,101,32,97,110,100,32,111,114,32,110,111,116]⟩ : ByteArray) t122 _ A1.out).mono ?_);(case tab1 => exact hT_.below (Up.Bx HB));rintro e w4 ⟨v123,rfl,ho0,hb⟩;refine ⟨_,rfl,?_⟩;have n0_:=Up.RB HO121 hb;have n1_:=Aside0.mk (Kd.R_lower ho0 (below_size (Up.Bup HB)));have n2_:=Up.BB HB hb;clear HO121 HB;have HO121:=n0_;have HO124:=n1_;have HB:=n2_;clear n0_ n1_ n2_;(try clear hb);(try clear hb2);(try clear hk);(try clear hi);(try clear ho0);obtain ⟨Ao5,co5,eo5⟩:=Kd.R_slice HO124.out;subst eo5))
 go_loopg [1,10] k (fun kq v1 v10 w' => ∃ (x1_1 : List (S46)) (x10_1 : Int),v10 = .int .i64 x10_1 ∧ Aside0 (impl_insForms.l0 kq x1_1 t122 (t122.length : Int) x10_1 = some r) ∧ Aside0 (kq ≤ k) ∧ Aside0 (Kd.R k46 46 w' w.heap.size (fun _ => True) v1 x1_1) ∧ Aside0 (Kd.R Kd.string 9 w' w.heap.size (fun _ => True) (.slice Ao5 t122.length co5) t122) ∧ Aside0 (Below w.heap.size w w'))
 case atStart => exact ⟨(y119),(0),(by first | rfl | (simp;done) | (simp [*];done)),H',⟨Nat.le_refl _⟩,⟨Up.Rup HO121⟩,⟨Up.Rup HO124⟩,⟨Up.Bup HB⟩⟩
 case round =>
  clear H'
  try clear p2
  try clear c3
  try clear c5
  obtain ⟨x1_1,x10_1,rfl,HA,HK1,HO_1,HO_8,HB⟩:=hrel
  cases gk with
  | zero => exact absurd HA.out (by simp [impl_insForms.l0])
  | succ k1 =>
   have H:=HA.out
   clear HA
   simp only [impl_insForms.l0] at H
   by_cases c6 : x10_1 < (t122.length : Int)
   ·rw [if_pos c6] at H
    have c6b0 : decide (x10_1 < (t122.length : Int)) = true:=decide_eq_true c6
    clear c6
    by_cases c7 : 0 ≤ x10_1
    ·rw [if_pos c7] at H
     have c7b0 : decide (0 ≤ x10_1) = true:=decide_eq_true c7
     clear c7
     by_cases c8 : x10_1 < (t122.length : Int)
     ·rw [if_pos c8] at H
      have c8b0 : decide (x10_1 < (t122.length : Int)) = true:=decide_eq_true c8
      clear c8
      by_cases c9 : x1_1.length < 4398046511104
      ·rw [if_pos c9] at H
       have LMc9:=Aside0.mk c9
       clear c9
       obtain ⟨y126,hy126⟩ : ∃ y_ : List (S46),y_ = (x1_1 ++ [(⟨rdOf ByteArray.empty t122 x10_1,0,0⟩ : S46)]):=⟨_,rfl⟩
       replace H : (impl_insForms.l0 k1 y126 t122 (t122.length : Int) (wrap64 (x10_1 + 1))) = some r:=by first | (rw [hy126];with_reducible exact H) | (have H2_:=(Option.bind_some _ _).symm.trans H;rw [hy126];with_reducible exact H2_) | (have H2_:=(Option.bind_some _ _).symm.trans H;with_reducible exact H2_) | with_reducible exact H | (rw [hy126];exact H) | exact H
       have Ny126:=Aside0.mk hy126
       clear hy126
       have H':=Aside0.mk H
       clear H
       have p125 : 0 ≤ (x10_1 : Int):=Up.od
       have q125 : x10_1 < (t122.length : Int):=Up.od
       obtain ⟨ad125,e125,hx125_0⟩:=Kd.at_string (Kd.R_reads' HO_8.out).2.2 x10_1 p125 q125
       cases e125
       replace p125:=eq_true p125
       replace q125:=eq_true q125
       go_wp2_with (first | ((with_reducible refine gate_builtin (b:=.append) (xs:=#[.tmp 14,.tmp 17]) rfl ?_);at_builtin;refine Kd.R_append k46 (w0:=w) w.heap.size rfl (.tmp 14) (.tmp 17) 49 46 (.agg #[(.string ⟨#[]⟩),(.int .i64 0),(.int .i64 0)]) 32 rfl Tryd.underlying49 info46 rfl (by decide) (by omega) u1 x1_1 (⟨rdOf ByteArray.empty t122 x10_1,0,0⟩ : S46) [.string (rdOf ByteArray.empty t122 x10_1),.int .i64 0,.int .i64 0] (fun _ => True) (fun _ => False) rfl rfl ?aP (fun _ hk => hk.elim) ?aF ?aO ?aB ?aS ?aL ?_;(case aP => exact k46_mkM _ _ _ (⟨rdOf ByteArray.empty t122 x10_1,0,0⟩ : S46));(case aB => exact (Up.Bup HB));(case aF => exact (fun _ _ => trivial));(case aO => exact (Up.Rup HO_1));(case aS => exact (below_size (Up.Bup HB)));(case aL => have:=LMc9.out;omega);intro v127 w10 ho hb hg hat;rw [← Ny126.out] at ho;have n0_:=Aside0.mk (Kd.R_over' (Up.Rup HO_8) (Kd.R_typed (Up.Rup HO_1)) (by decide) hg);have n1_:=Aside0.mk (hb);have n2_:=Aside0.mk (ho);clear HO_8 HB HO_1;have HO_8:=n0_;have HB:=n1_;have HO128:=n2_;clear n0_ n1_ n2_ ho hb hg hat))
       go_roundg k1
       case measure => have:=HK1.out;omega
       case rel => exact ⟨(y126),(wrap64 (x10_1 + 1)),(by first | rfl | (simp;done) | (simp [*];done)),H',⟨by have:=HK1.out;omega⟩,⟨Up.Rup HO128⟩,⟨Up.Rup HO_8⟩,⟨Up.Bup HB⟩⟩
      ·rw [if_neg c9] at H
       exact absurd H (by simp)
     ·rw [if_neg c8] at H
      exact absurd H (by simp)
    ·rw [if_neg c7] at H
     exact absurd H (by simp)
   ·rw [if_neg c6] at H
    have c6b0 : decide (x10_1 < (t122.length : Int)) = false:=decide_eq_false c6
    clear c6
    obtain ⟨y129,hy129⟩ : ∃ y_ : List (S46),y_ = (([(⟨(⟨#[99,111,112,121]⟩ : ByteArray),6,0⟩ : S46),(⟨(⟨#[109,111,118,101]⟩ : ByteArray),6,0⟩ : S46),(⟨(⟨#[112,117,116]⟩ : ByteArray),6,0⟩ : S46),(⟨(⟨#[100,114,111,112]⟩ : ByteArray),0,0⟩ : S46)] : List (S46))):=⟨_,rfl⟩
    replace H : (if x1_1.length + y129.length < 4398046511104 then ((some (x1_1 ++ y129 : List (S46))).bind fun y132 => ((some (([(⟨(⟨#[112,97,99,107]⟩ : ByteArray),3,0⟩ : S46),(⟨(⟨#[117,110,112,97,99,107]⟩ : ByteArray),3,0⟩ : S46),(⟨(⟨#[108,101,110,100]⟩ : ByteArray),6,0⟩ : S46),(⟨(⟨#[108,101,110,100,119]⟩ : ByteArray),6,0⟩ : S46),(⟨(⟨#[102,105,101,108,100]⟩ : ByteArray),3,3⟩ : S46)] : List (S46)) : List (S46))).bind fun y135 => (if y132.length + y135.length < 4398046511104 then ((some (y132 ++ y135 : List (S46))).bind fun y138 => ((some (([(⟨(⟨#[114,101,97,100]⟩ : ByteArray),0,0⟩ : S46),(⟨(⟨#[112,101,101,107]⟩ : ByteArray),0,0⟩ : S46),(⟨(⟨#[119,114,105,116,101]⟩ : ByteArray),0,0⟩ : S46),(⟨(⟨#[102,114,101,101,122,101]⟩ : ByteArray),0,0⟩ : S46)] : List (S46)) : List (S46))).bind fun y141 => (if y138.length + y141.length < 4398046511104 then ((strings_Fields.f (⟨#[107,101,101,112,32,116,97,107,101,32,104,97,115,32,115,101,101,32,115,101,101,119]⟩ : ByteArray)).bind fun t147 => (impl_insForms.l1 k1 (y138 ++ y141) t147 (t147.length : Int) 0)) else (none)))) else (none)))) else (none)) = some r:=by first | (rw [hy129];with_reducible exact H) | (have H2_:=(Option.bind_some _ _).symm.trans H;rw [hy129];with_reducible exact H2_) | (have H2_:=(Option.bind_some _ _).symm.trans H;with_reducible exact H2_) | with_reducible exact H | (rw [hy129];exact H) | exact H
    have Ny129:=Aside0.mk hy129
    clear hy129
    by_cases c11 : x1_1.length + y129.length < 4398046511104
    ·rw [if_pos c11] at H
     have LMc11:=Aside0.mk c11
     clear c11
     obtain ⟨y132,hy132⟩ : ∃ y_ : List (S46),y_ = (x1_1 ++ y129):=⟨_,rfl⟩
     replace H : ((some (([(⟨(⟨#[112,97,99,107]⟩ : ByteArray),3,0⟩ : S46),(⟨(⟨#[117,110,112,97,99,107]⟩ : ByteArray),3,0⟩ : S46),(⟨(⟨#[108,101,110,100]⟩ : ByteArray),6,0⟩ : S46),(⟨(⟨#[108,101,110,100,119]⟩ : ByteArray),6,0⟩ : S46),(⟨(⟨#[102,105,101,108,100]⟩ : ByteArray),3,3⟩ : S46)] : List (S46)) : List (S46))).bind fun y135 => (if y132.length + y135.length < 4398046511104 then ((some (y132 ++ y135 : List (S46))).bind fun y138 => ((some (([(⟨(⟨#[114,101,97,100]⟩ : ByteArray),0,0⟩ : S46),(⟨(⟨#[112,101,101,107]⟩ : ByteArray),0,0⟩ : S46),(⟨(⟨#[119,114,105,116,101]⟩ : ByteArray),0,0⟩ : S46),(⟨(⟨#[102,114,101,101,122,101]⟩ : ByteArray),0,0⟩ : S46)] : List (S46)) : List (S46))).bind fun y141 => (if y138.length + y141.length < 4398046511104 then ((strings_Fields.f (⟨#[107,101,101,112,32,116,97,107,101,32,104,97,115,32,115,101,101,32,115,101,101,119]⟩ : ByteArray)).bind fun t147 => (impl_insForms.l1 k1 (y138 ++ y141) t147 (t147.length : Int) 0)) else (none)))) else (none))) = some r:=by first | (rw [hy132];with_reducible exact H) | (have H2_:=(Option.bind_some _ _).symm.trans H;rw [hy132];with_reducible exact H2_) | (have H2_:=(Option.bind_some _ _).symm.trans H;with_reducible exact H2_) | with_reducible exact H | (rw [hy132];exact H) | exact H
     have Ny132:=Aside0.mk hy132
     clear hy132
     obtain ⟨y135,hy135⟩ : ∃ y_ : List (S46),y_ = (([(⟨(⟨#[112,97,99,107]⟩ : ByteArray),3,0⟩ : S46),(⟨(⟨#[117,110,112,97,99,107]⟩ : ByteArray),3,0⟩ : S46),(⟨(⟨#[108,101,110,100]⟩ : ByteArray),6,0⟩ : S46),(⟨(⟨#[108,101,110,100,119]⟩ : ByteArray),6,0⟩ : S46),(⟨(⟨#[102,105,101,108,100]⟩ : ByteArray),3,3⟩ : S46)] : List (S46))):=⟨_,rfl⟩
     replace H : (if y132.length + y135.length < 4398046511104 then ((some (y132 ++ y135 : List (S46))).bind fun y138 => ((some (([(⟨(⟨#[114,101,97,100]⟩ : ByteArray),0,0⟩ : S46),(⟨(⟨#[112,101,101,107]⟩ : ByteArray),0,0⟩ : S46),(⟨(⟨#[119,114,105,116,101]⟩ : ByteArray),0,0⟩ : S46),(⟨(⟨#[102,114,101,101,122,101]⟩ : ByteArray),0,0⟩ : S46)] : List (S46)) : List (S46))).bind fun y141 => (if y138.length + y141.length < 4398046511104 then ((strings_Fields.f (⟨#[107,101,101,112,32,116,97,107,101,32,104,97,115,32,115,101,101,32,115,101,101,119]⟩ : ByteArray)).bind fun t147 => (impl_insForms.l1 k1 (y138 ++ y141) t147 (t147.length : Int) 0)) else (none)))) else (none)) = some r:=by first | (rw [hy135];with_reducible exact H) | (have H2_:=(Option.bind_some _ _).symm.trans H;rw [hy135];with_reducible exact H2_) | (have H2_:=(Option.bind_some _ _).symm.trans H;with_reducible exact H2_) | with_reducible exact H | (rw [hy135];exact H) | exact H
     have Ny135:=Aside0.mk hy135
     clear hy135
     by_cases c12 : y132.length + y135.length < 4398046511104
     ·rw [if_pos c12] at H
      have LMc12:=Aside0.mk c12
      clear c12
      obtain ⟨y138,hy138⟩ : ∃ y_ : List (S46),y_ = (y132 ++ y135):=⟨_,rfl⟩
      replace H : ((some (([(⟨(⟨#[114,101,97,100]⟩ : ByteArray),0,0⟩ : S46),(⟨(⟨#[112,101,101,107]⟩ : ByteArray),0,0⟩ : S46),(⟨(⟨#[119,114,105,116,101]⟩ : ByteArray),0,0⟩ : S46),(⟨(⟨#[102,114,101,101,122,101]⟩ : ByteArray),0,0⟩ : S46)] : List (S46)) : List (S46))).bind fun y141 => (if y138.length + y141.length < 4398046511104 then ((strings_Fields.f (⟨#[107,101,101,112,32,116,97,107,101,32,104,97,115,32,115,101,101,32,115,101,101,119]⟩ : ByteArray)).bind fun t147 => (impl_insForms.l1 k1 (y138 ++ y141) t147 (t147.length : Int) 0)) else (none))) = some r:=by first | (rw [hy138];with_reducible exact H) | (have H2_:=(Option.bind_some _ _).symm.trans H;rw [hy138];with_reducible exact H2_) | (have H2_:=(Option.bind_some _ _).symm.trans H;with_reducible exact H2_) | with_reducible exact H | (rw [hy138];exact H) | exact H
      have Ny138:=Aside0.mk hy138
      clear hy138
      obtain ⟨y141,hy141⟩ : ∃ y_ : List (S46),y_ = (([(⟨(⟨#[114,101,97,100]⟩ : ByteArray),0,0⟩ : S46),(⟨(⟨#[112,101,101,107]⟩ : ByteArray),0,0⟩ : S46),(⟨(⟨#[119,114,105,116,101]⟩ : ByteArray),0,0⟩ : S46),(⟨(⟨#[102,114,101,101,122,101]⟩ : ByteArray),0,0⟩ : S46)] : List (S46))):=⟨_,rfl⟩
      replace H : (if y138.length + y141.length < 4398046511104 then ((strings_Fields.f (⟨#[107,101,101,112,32,116,97,107,101,32,104,97,115,32,115,101,101,32,115,101,101,119]⟩ : ByteArray)).bind fun t147 => (impl_insForms.l1 k1 (y138 ++ y141) t147 (t147.length : Int) 0)) else (none)) = some r:=by first | (rw [hy141];with_reducible exact H) | (have H2_:=(Option.bind_some _ _).symm.trans H;rw [hy141];with_reducible exact H2_) | (have H2_:=(Option.bind_some _ _).symm.trans H;with_reducible exact H2_) | with_reducible exact H | (rw [hy141];exact H) | exact H
      have Ny141:=Aside0.mk hy141
      clear hy141
      by_cases c13 : y138.length + y141.length < 4398046511104
      ·rw [if_pos c13] at H
       have LMc13:=Aside0.mk c13
       clear c13
       obtain ⟨y144,hy144⟩ : ∃ y_ : List (S46),y_ = (y138 ++ y141):=⟨_,rfl⟩
       replace H : ((strings_Fields.f (⟨#[107,101,101,112,32,116,97,107,101,32,104,97,115,32,115,101,101,32,115,101,101,119]⟩ : ByteArray)).bind fun t147 => (impl_insForms.l1 k1 y144 t147 (t147.length : Int) 0)) = some r:=by first | (rw [hy144];with_reducible exact H) | (have H2_:=(Option.bind_some _ _).symm.trans H;rw [hy144];with_reducible exact H2_) | (have H2_:=(Option.bind_some _ _).symm.trans H;with_reducible exact H2_) | with_reducible exact H | (rw [hy144];exact H) | exact H
       have Ny144:=Aside0.mk hy144
       clear hy144
       replace H:=Option.bind_eq_some_iff.mp H
       obtain ⟨t147,A140,H⟩:=H
       replace H : (impl_insForms.l1 k1 y144 t147 (t147.length : Int) 0) = some r:=H
       have A14:=Aside0.mk A140
       clear A140
       have H':=Aside0.mk H
       clear H
       go_wp2_with (first | ((with_reducible refine gate_dst (N:=25) rfl ?_);refine Kd.R_lit k46 _ 46 ?hg (N:=25) ?hd (xs:=([(⟨(⟨#[99,111,112,121]⟩ : ByteArray),6,0⟩ : S46),(⟨(⟨#[109,111,118,101]⟩ : ByteArray),6,0⟩ : S46),(⟨(⟨#[112,117,116]⟩ : ByteArray),6,0⟩ : S46),(⟨(⟨#[100,114,111,112]⟩ : ByteArray),0,0⟩ : S46)] : List (S46))) (inner:=[.string (⟨#[99,111,112,121]⟩ : ByteArray),.int .i64 6,.int .i64 0,.string (⟨#[109,111,118,101]⟩ : ByteArray),.int .i64 6,.int .i64 0,.string (⟨#[112,117,116]⟩ : ByteArray),.int .i64 6,.int .i64 0,.string (⟨#[100,114,111,112]⟩ : ByteArray),.int .i64 0,.int .i64 0]) (ok:=fun _ => True) (okp:=fun _ => True) ?hr ?hp (fun _ hk => hk) trivial (Below.refl _ _) (Nat.le_refl _) (by simp) ?_;(case hd => rfl);(case hg => rfl);(case hr => first | (go_simp;done) | (go_simp;rfl));(case hp => exact (Reps.c3 (show Kd.M k46 _ _ _ (⟨(⟨#[99,111,112,121]⟩ : ByteArray),6,0⟩ : S46) [.string (⟨#[99,111,112,121]⟩ : ByteArray),.int .i64 6,.int .i64 0] from (k46_mkM _ _ _ (⟨(⟨#[99,111,112,121]⟩ : ByteArray),6,0⟩ : S46) )) (Reps.c3 (show Kd.M k46 _ _ _ (⟨(⟨#[109,111,118,101]⟩ : ByteArray),6,0⟩ : S46) [.string (⟨#[109,111,118,101]⟩ : ByteArray),.int .i64 6,.int .i64 0] from (k46_mkM _ _ _ (⟨(⟨#[109,111,118,101]⟩ : ByteArray),6,0⟩ : S46) )) (Reps.c3 (show Kd.M k46 _ _ _ (⟨(⟨#[112,117,116]⟩ : ByteArray),6,0⟩ : S46) [.string (⟨#[112,117,116]⟩ : ByteArray),.int .i64 6,.int .i64 0] from (k46_mkM _ _ _ (⟨(⟨#[112,117,116]⟩ : ByteArray),6,0⟩ : S46) )) (Reps.c3 (show Kd.M k46 _ _ _ (⟨(⟨#[100,114,111,112]⟩ : ByteArray),0,0⟩ : S46) [.string (⟨#[100,114,111,112]⟩ : ByteArray),.int .i64 0,.int .i64 0] from (k46_mkM _ _ _ (⟨(⟨#[100,114,111,112]⟩ : ByteArray),0,0⟩ : S46) )) (Reps.none _ _))))));intro v130 w15 ho16 hb hg_ hnew_;clear hg_ hnew_;(first | rw [← Ny129.out] at ho16 | (simp only [Int.reduceToNat] at ho16;rw [← Ny129.out] at ho16));have n0_:=Aside0.mk (Kd.R_elder' (Up.Rup HO_1) (Kd.R_base ho16) hb);have n1_:=Up.RB HO_8 hb;have n2_:=Aside0.mk (Kd.R_lower (Kd.R_new' ho16 (Kd.R_lt (Up.Rup HO_1))) (below_size (Up.Bup HB)));have n3_:=Up.BB HB hb;clear HO_1 HO_8 HB;have HO_1:=n0_;have HO_8:=n1_;have HO131:=n2_;have HB:=n3_;clear n0_ n1_ n2_ n3_ hb ho16;obtain ⟨Ao18,co18,eo18⟩:=Kd.R_slice HO131.out;subst eo18) | ((with_reducible refine gate_builtin (b:=.append) (xs:=#[.tmp 20,.tmp 25]) rfl ?_);at_builtin;refine Kd.R_append_rows k46 (w0:=w) w.heap.size rfl (.tmp 20) (.tmp 25) 49 46 (.agg #[(.string ⟨#[]⟩),(.int .i64 0),(.int .i64 0)]) 32 rfl Tryd.underlying49 info46 rfl (by decide) (by omega) u1 x1_1 y129 _ _ _ (fun k_ => some k_ ≠ (.slice Ao18 y129.length co18 : Value).ownBlock) (fun _ => False) rfl rfl ?aO ?aR (fun _ _ h => h) (fun _ h => h.elim) ?aF ?aB ?aS ?aL ?_;(case aR => repeat (first | exact (Kd.R_reads' HO131.out).2.2 | (with_reducible refine Kd.C_alloc ?_ _) | (with_reducible refine Kd.C_drewN ?_ _) | (with_reducible refine Kd.C_drew ?_)));(case aB => exact (Up.Bup HB));(case aF => exact (fun k_ hk => Kd.fresh' (Kd.R_lt (Up.Rup HO131)) k_ hk));(case aO => exact (Up.Rq (Kd.R_mono HO_1.out (fun _ hk => hk.2))));(case aS => exact (below_size (Up.Bup HB)));(case aL => have:=LMc11.out;omega);intro v133 w17 ho hb hg hat;rw [← Ny132.out] at ho;have n0_:=Aside0.mk (Kd.R_over' (Up.Rup HO_8) (Kd.R_typed (Up.Rup HO_1)) (by decide) hg);have n1_:=Aside0.mk (Kd.R_after (ok:=(fun _ => True)) (Up.Rup HO131) hg hat);have n2_:=Aside0.mk (hb);have n3_:=Aside0.mk (ho);clear HO_8 HO131 HB HO_1;have HO_8:=n0_;have HO131:=n1_;have HB:=n2_;have HO134:=n3_;clear n0_ n1_ n2_ n3_ ho hb hg hat) | ((with_reducible refine gate_dst (N:=33) rfl ?_);refine Kd.R_lit k46 _ 46 ?hg (N:=33) ?hd (xs:=([(⟨(⟨#[112,97,99,107]⟩ : ByteArray),3,0⟩ : S46),(⟨(⟨#[117,110,112,97,99,107]⟩ : ByteArray),3,0⟩ : S46),(⟨(⟨#[108,101,110,100]⟩ : ByteArray),6,0⟩ : S46),(⟨(⟨#[108,101,110,100,119]⟩ : ByteArray),6,0⟩ : S46),(⟨(⟨#[102,105,101,108,100]⟩ : ByteArray),3,3⟩ : S46)] : List (S46))) (inner:=[.string (⟨#[112,97,99,107]⟩ : ByteArray),.int .i64 3,.int .i64 0,.string (⟨#[117,110,112,97,99,107]⟩ : ByteArray),.int .i64 3,.int .i64 0,.string (⟨#[108,101,110,100]⟩ : ByteArray),.int .i64 6,.int .i64 0,.string (⟨#[108,101,110,100,119]⟩ : ByteArray),.int .i64 6,.int .i64 0,.string (⟨#[102,105,101,108,100]⟩ : ByteArray),.int .i64 3,.int .i64 3]) (ok:=fun _ => True) (okp:=fun _ => True) ?hr ?hp (fun _ hk => hk) trivial (Below.refl _ _) (Nat.le_refl _) (by simp) ?_;(case hd => rfl);(case hg => rfl);(case hr => first | (go_simp;done) | (go_simp;rfl));(case hp => exact (Reps.c3 (show Kd.M k46 _ _ _ (⟨(⟨#[112,97,99,107]⟩ : ByteArray),3,0⟩ : S46) [.string (⟨#[112,97,99,107]⟩ : ByteArray),.int .i64 3,.int .i64 0] from (k46_mkM _ _ _ (⟨(⟨#[112,97,99,107]⟩ : ByteArray),3,0⟩ : S46) )) (Reps.c3 (show Kd.M k46 _ _ _ (⟨(⟨#[117,110,112,97,99,107]⟩ : ByteArray),3,0⟩ : S46) [.string (⟨#[117,110,112,97,99,107]⟩ : ByteArray),.int .i64 3,.int .i64 0] from (k46_mkM _ _ _ (⟨(⟨#[117,110,112,97,99,107]⟩ : ByteArray),3,0⟩ : S46) )) (Reps.c3 (show Kd.M k46 _ _ _ (⟨(⟨#[108,101,110,100]⟩ : ByteArray),6,0⟩ : S46) [.string (⟨#[108,101,110,100]⟩ : ByteArray),.int .i64 6,.int .i64 0] from (k46_mkM _ _ _ (⟨(⟨#[108,101,110,100]⟩ : ByteArray),6,0⟩ : S46) )) (Reps.c3 (show Kd.M k46 _ _ _ (⟨(⟨#[108,101,110,100,119]⟩ : ByteArray),6,0⟩ : S46) [.string (⟨#[108,101,110,100,119]⟩ : ByteArray),.int .i64 6,.int .i64 0] from (k46_mkM _ _ _ (⟨(⟨#[108,101,110,100,119]⟩ : ByteArray),6,0⟩ : S46) )) (Reps.c3 (show Kd.M k46 _ _ _ (⟨(⟨#[102,105,101,108,100]⟩ : ByteArray),3,3⟩ : S46) [.string (⟨#[102,105,101,108,100]⟩ : ByteArray),.int .i64 3,.int .i64 3] from (k46_mkM _ _ _ (⟨(⟨#[102,105,101,108,100]⟩ : ByteArray),3,3⟩ : S46) )) (Reps.none _ _)))))));intro v136 w19 ho20 hb hg_ hnew_;clear hg_ hnew_;(first | rw [← Ny135.out] at ho20 | (simp only [Int.reduceToNat] at ho20;rw [← Ny135.out] at ho20));have n0_:=Up.RB HO_8 hb;have n1_:=Aside0.mk (Kd.R_elder' (Up.Rup HO131) (Kd.R_base ho20) hb);have n2_:=Aside0.mk (Kd.R_elder' (Up.Rup HO134) (Kd.R_base ho20) hb);have n3_:=Aside0.mk (Kd.R_lower (Kd.R_new' (Kd.R_new' ho20 (Kd.R_lt (Up.Rup HO131))) (Kd.R_lt (Up.Rup HO134))) (below_size (Up.Bup HB)));have n4_:=Up.BB HB hb;clear HO_8 HO131 HO134 HB;have HO_8:=n0_;have HO131:=n1_;have HO134:=n2_;have HO137:=n3_;have HB:=n4_;clear n0_ n1_ n2_ n3_ n4_ hb ho20;obtain ⟨Ao22,co22,eo22⟩:=Kd.R_slice HO137.out;subst eo22) | ((with_reducible refine gate_builtin (b:=.append) (xs:=#[.tmp 27,.tmp 33]) rfl ?_);at_builtin;refine Kd.R_append_rows k46 (w0:=w) w.heap.size rfl (.tmp 27) (.tmp 33) 49 46 (.agg #[(.string ⟨#[]⟩),(.int .i64 0),(.int .i64 0)]) 32 rfl Tryd.underlying49 info46 rfl (by decide) (by omega) v133 y132 y135 _ _ _ (fun k_ => some k_ ≠ (.slice Ao18 y129.length co18 : Value).ownBlock ∧ some k_ ≠ (.slice Ao22 y135.length co22 : Value).ownBlock) (fun _ => False) rfl rfl ?aO ?aR (fun _ _ h => h) (fun _ h => h.elim) ?aF ?aB ?aS ?aL ?_;(case aR => repeat (first | exact (Kd.R_reads' HO137.out).2.2 | (with_reducible refine Kd.C_alloc ?_ _) | (with_reducible refine Kd.C_drewN ?_ _) | (with_reducible refine Kd.C_drew ?_)));(case aB => exact (Up.Bup HB));(case aF => exact (fun k_ hk => ⟨Kd.fresh' (Kd.R_lt (Up.Rup HO131)) k_ hk,Kd.fresh' (Kd.R_lt (Up.Rup HO137)) k_ hk⟩));(case aO => exact (Up.Rup HO134));(case aS => exact (below_size (Up.Bup HB)));(case aL => have:=LMc12.out;omega);intro v139 w21 ho hb hg hat;rw [← Ny138.out] at ho;have n0_:=Aside0.mk (Kd.R_over' (Up.Rup HO_8) (Kd.R_typed (Up.Rup HO134)) (by decide) hg);have n1_:=Aside0.mk (Kd.R_after (ok:=(fun k_ => some k_ ≠ (.slice Ao22 y135.length co22 : Value).ownBlock)) (Up.Rq (Kd.R_mono HO131.out (fun _ hk => ⟨hk.2,hk.1.2⟩))) hg hat);have n2_:=Aside0.mk (Kd.R_after (ok:=(fun k_ => some k_ ≠ (.slice Ao18 y129.length co18 : Value).ownBlock)) (Up.Rq (Kd.R_mono HO137.out (fun _ hk => ⟨hk.1.2,hk.2⟩))) hg hat);have n3_:=Aside0.mk (hb);have n4_:=Aside0.mk (ho);clear HO_8 HO131 HO137 HB HO134;have HO_8:=n0_;have HO131:=n1_;have HO137:=n2_;have HB:=n3_;have HO140:=n4_;clear n0_ n1_ n2_ n3_ n4_ ho hb hg hat) | ((with_reducible refine gate_dst (N:=40) rfl ?_);refine Kd.R_lit k46 _ 46 ?hg (N:=40) ?hd (xs:=([(⟨(⟨#[114,101,97,100]⟩ : ByteArray),0,0⟩ : S46),(⟨(⟨#[112,101,101,107]⟩ : ByteArray),0,0⟩ : S46),(⟨(⟨#[119,114,105,116,101]⟩ : ByteArray),0,0⟩ : S46),(⟨(⟨#[102,114,101,101,122,101]⟩ : ByteArray),0,0⟩ : S46)] : List (S46))) (inner:=[.string (⟨#[114,101,97,100]⟩ : ByteArray),.int .i64 0,.int .i64 0,.string (⟨#[112,101,101,107]⟩ : ByteArray),.int .i64 0,.int .i64 0,.string (⟨#[119,114,105,116,101]⟩ : ByteArray),.int .i64 0,.int .i64 0,.string (⟨#[102,114,101,101,122,101]⟩ : ByteArray),.int .i64 0,.int .i64 0]) (ok:=fun _ => True) (okp:=fun _ => True) ?hr ?hp (fun _ hk => hk) trivial (Below.refl _ _) (Nat.le_refl _) (by simp) ?_;(case hd => rfl);(case hg => rfl);(case hr => first | (go_simp;done) | (go_simp;rfl));(case hp => exact (Reps.c3 (show Kd.M k46 _ _ _ (⟨(⟨#[114,101,97,100]⟩ : ByteArray),0,0⟩ : S46) [.string (⟨#[114,101,97,100]⟩ : ByteArray),.int .i64 0,.int .i64 0] from (k46_mkM _ _ _ (⟨(⟨#[114,101,97,100]⟩ : ByteArray),0,0⟩ : S46) )) (Reps.c3 (show Kd.M k46 _ _ _ (⟨(⟨#[112,101,101,107]⟩ : ByteArray),0,0⟩ : S46) [.string (⟨#[112,101,101,107]⟩ : ByteArray),.int .i64 0,.int .i64 0] from (k46_mkM _ _ _ (⟨(⟨#[112,101,101,107]⟩ : ByteArray),0,0⟩ : S46) )) (Reps.c3 (show Kd.M k46 _ _ _ (⟨(⟨#[119,114,105,116,101]⟩ : ByteArray),0,0⟩ : S46) [.string (⟨#[119,114,105,116,101]⟩ : ByteArray),.int .i64 0,.int .i64 0] from (k46_mkM _ _ _ (⟨(⟨#[119,114,105,116,101]⟩ : ByteArray),0,0⟩ : S46) )) (Reps.c3 (show Kd.M k46 _ _ _ (⟨(⟨#[102,114,101,101,122,101]⟩ : ByteArray),0,0⟩ : S46) [.string (⟨#[102,114,101,101,122,101]⟩ : ByteArray),.int .i64 0,.int .i64 0] from (k46_mkM _ _ _ (⟨(⟨#[102,114,101,101,122,101]⟩ : ByteArray),0,0⟩ : S46) )) (Reps.none _ _))))));intro v142 w23 ho24 hb hg_ hnew_;clear hg_ hnew_;(first | rw [← Ny141.out] at ho24 | (simp only [Int.reduceToNat] at ho24;rw [← Ny141.out] at ho24));have n0_:=Up.RB HO_8 hb;have n1_:=Aside0.mk (Kd.R_elder' (Up.Rup HO131) (Kd.R_base ho24) hb);have n2_:=Aside0.mk (Kd.R_elder' (Up.Rup HO137) (Kd.R_base ho24) hb);have n3_:=Aside0.mk (Kd.R_elder' (Up.Rup HO140) (Kd.R_base ho24) hb);have n4_:=Aside0.mk (Kd.R_lower (Kd.R_new' (Kd.R_new' (Kd.R_new' ho24 (Kd.R_lt (Up.Rup HO131))) (Kd.R_lt (Up.Rup HO137))) (Kd.R_lt (Up.Rup HO140))) (below_size (Up.Bup HB)));have n5_:=Up.BB HB hb;clear HO_8 HO131 HO137 HO140 HB;have HO_8:=n0_;have HO131:=n1_;have HO137:=n2_;have HO140:=n3_;have HO143:=n4_;have HB:=n5_;clear n0_ n1_ n2_ n3_ n4_ n5_ hb ho24;obtain ⟨Ao26,co26,eo26⟩:=Kd.R_slice HO143.out;subst eo26) | ((with_reducible refine gate_builtin (b:=.append) (xs:=#[.tmp 35,.tmp 40]) rfl ?_);at_builtin;refine Kd.R_append_rows k46 (w0:=w) w.heap.size rfl (.tmp 35) (.tmp 40) 49 46 (.agg #[(.string ⟨#[]⟩),(.int .i64 0),(.int .i64 0)]) 32 rfl Tryd.underlying49 info46 rfl (by decide) (by omega) v139 y138 y141 _ _ _ (fun k_ => some k_ ≠ (.slice Ao18 y129.length co18 : Value).ownBlock ∧ some k_ ≠ (.slice Ao22 y135.length co22 : Value).ownBlock ∧ some k_ ≠ (.slice Ao26 y141.length co26 : Value).ownBlock) (fun _ => False) rfl rfl ?aO ?aR (fun _ _ h => h) (fun _ h => h.elim) ?aF ?aB ?aS ?aL ?_;(case aR => repeat (first | exact (Kd.R_reads' HO143.out).2.2 | (with_reducible refine Kd.C_alloc ?_ _) | (with_reducible refine Kd.C_drewN ?_ _) | (with_reducible refine Kd.C_drew ?_)));(case aB => exact (Up.Bup HB));(case aF => exact (fun k_ hk => ⟨Kd.fresh' (Kd.R_lt (Up.Rup HO131)) k_ hk,Kd.fresh' (Kd.R_lt (Up.Rup HO137)) k_ hk,Kd.fresh' (Kd.R_lt (Up.Rup HO143)) k_ hk⟩));(case aO => exact (Up.Rq (Kd.R_mono HO140.out (fun _ hk => ⟨hk.1.1,⟨hk.1.2,hk.2⟩⟩))));(case aS => exact (below_size (Up.Bup HB)));(case aL => have:=LMc13.out;omega);intro v145 w25 ho hb hg hat;rw [← Ny144.out] at ho;have n0_:=Aside0.mk (Kd.R_over' (Up.Rup HO_8) (Kd.R_typed (Up.Rup HO140)) (by decide) hg);have n1_:=Aside0.mk (Kd.R_after (ok:=(fun k_ => some k_ ≠ (.slice Ao22 y135.length co22 : Value).ownBlock ∧ some k_ ≠ (.slice Ao26 y141.length co26 : Value).ownBlock)) (Up.Rq (Kd.R_mono HO131.out (fun _ hk => ⟨⟨hk.1.1,hk.2⟩,hk.1.2⟩))) hg hat);have n2_:=Aside0.mk (Kd.R_after (ok:=(fun k_ => some k_ ≠ (.slice Ao18 y129.length co18 : Value).ownBlock ∧ some k_ ≠ (.slice Ao26 y141.length co26 : Value).ownBlock)) (Up.Rq (Kd.R_mono HO137.out (fun _ hk => ⟨⟨hk.1.1,hk.2⟩,hk.1.2⟩))) hg hat);have n3_:=Aside0.mk (Kd.R_after (ok:=(fun k_ => some k_ ≠ (.slice Ao18 y129.length co18 : Value).ownBlock ∧ some k_ ≠ (.slice Ao22 y135.length co22 : Value).ownBlock)) (Up.Rq (Kd.R_mono HO143.out (fun _ hk => ⟨⟨hk.1.1.2,hk.1.2⟩,hk.2⟩))) hg hat);have n4_:=Aside0.mk (hb);have n5_:=Aside0.mk (ho);clear HO_8 HO131 HO137 HO143 HB HO140;have HO_8:=n0_;have HO131:=n1_;have HO137:=n2_;have HO143:=n3_;have HB:=n4_;have HO146:=n5_;clear n0_ n1_ n2_ n3_ n4_ n5_ ho hb hg hat) | ((with_reducible refine gate_callee (f:=51) rfl ?_);refine Up.gl (some 42) Tryd.func51 #[.string (⟨#[107,101,101,112,32,116,97,107,101,32,104,97,115,32,115,101,101,32,115,101,101,119]⟩ : ByteArray)] ?_;(with_reducible refine (strings_Fields.calls (hT_:=?tab1) (⟨#[107,101,101,112,32,116,97,107,101,32,104,97,115,32,115,101,101,32,115,101,101,119]⟩ : ByteArray) t147 _ A14.out).mono ?_);(case tab1 => exact hT_.below (Up.Bx HB));rintro e w27 ⟨v148,rfl,ho0,hb⟩;refine ⟨_,rfl,?_⟩;have n0_:=Aside0.mk (Kd.R_elder' (Up.Rup HO_8) (Kd.R_base ho0) hb);have n1_:=Up.RB HO131 hb;have n2_:=Up.RB HO137 hb;have n3_:=Up.RB HO143 hb;have n4_:=Up.RB HO146 hb;have n5_:=Aside0.mk (Kd.R_lower (Kd.R_new' ho0 (Kd.R_lt (Up.Rup HO_8))) (below_size (Up.Bup HB)));have n6_:=Up.BB HB hb;clear HO_8 HO131 HO137 HO143 HO146 HB;have HO_8:=n0_;have HO131:=n1_;have HO137:=n2_;have HO143:=n3_;have HO146:=n4_;have HO149:=n5_;have HB:=n6_;clear n0_ n1_ n2_ n3_ n4_ n5_ n6_;(try clear hb);(try clear hb2);(try clear hk);(try clear hi);(try clear ho0);obtain ⟨Ao28,co28,eo28⟩:=Kd.R_slice HO149.out;subst eo28))
       go_loopg [1,44] k1 (fun kq v1 v44 w' => ∃ (x1_2 : List (S46)) (x44_2 : Int),v44 = .int .i64 x44_2 ∧ Aside0 (impl_insForms.l1 kq x1_2 t147 (t147.length : Int) x44_2 = some r) ∧ Aside0 (kq ≤ k1) ∧ Aside0 (Kd.R k46 46 w' w.heap.size (fun _ => True) v1 x1_2) ∧ Aside0 (Kd.R Kd.string 9 w' w.heap.size (fun _ => True) (.slice Ao28 t147.length co28) t147) ∧ Aside0 (Below w.heap.size w w'))
       case atStart => exact ⟨(y144),(0),(by first | rfl | (simp;done) | (simp [*];done)),H',⟨Nat.le_refl _⟩,⟨by (with_reducible repeat (first | apply Kd.R_alloc | apply Kd.R_drewN | apply Kd.R_drew));exact Kd.R_mono HO146.out (fun _ hk => trivial)⟩,⟨by (with_reducible repeat (first | apply Kd.R_alloc | apply Kd.R_drewN | apply Kd.R_drew));exact Kd.R_mono HO149.out (fun _ hk => trivial)⟩,⟨Up.Bup HB⟩⟩
       case round =>
        clear H'
        try clear c1
        try clear p1
        try clear q1
        try clear hx1
        try clear p2
        try clear c3
        try clear c5
        try clear c6
        try clear c6b0
        try clear p6
        try clear c7
        try clear c7b0
        try clear c8
        try clear c8b0
        try clear c9
        try clear c11
        try clear c12
        try clear p12
        try clear q12
        try clear hx12
        try clear c13
        try clear hx125_0
        try clear p125
        try clear p2
        try clear q125
        obtain ⟨x1_2,x44_2,rfl,HA,HK2,HO_1,HO_42,HB⟩:=hrel
        cases gk with
        | zero => exact absurd HA.out (by simp [impl_insForms.l1])
        | succ k2 =>
         have H:=HA.out
         clear HA
         simp only [impl_insForms.l1] at H
         by_cases c29 : x44_2 < (t147.length : Int)
         ·rw [if_pos c29] at H
          have c29b0 : decide (x44_2 < (t147.length : Int)) = true:=decide_eq_true c29
          clear c29
          by_cases c30 : 0 ≤ x44_2
          ·rw [if_pos c30] at H
           have c30b0 : decide (0 ≤ x44_2) = true:=decide_eq_true c30
           clear c30
           by_cases c31 : x44_2 < (t147.length : Int)
           ·rw [if_pos c31] at H
            have c31b0 : decide (x44_2 < (t147.length : Int)) = true:=decide_eq_true c31
            clear c31
            by_cases c32 : x1_2.length < 4398046511104
            ·rw [if_pos c32] at H
             have LMc32:=Aside0.mk c32
             clear c32
             obtain ⟨y151,hy151⟩ : ∃ y_ : List (S46),y_ = (x1_2 ++ [(⟨rdOf ByteArray.empty t147 x44_2,3,0⟩ : S46)]):=⟨_,rfl⟩
             replace H : (impl_insForms.l1 k2 y151 t147 (t147.length : Int) (wrap64 (x44_2 + 1))) = some r:=by first | (rw [hy151];with_reducible exact H) | (have H2_:=(Option.bind_some _ _).symm.trans H;rw [hy151];with_reducible exact H2_) | (have H2_:=(Option.bind_some _ _).symm.trans H;with_reducible exact H2_) | with_reducible exact H | (rw [hy151];exact H) | exact H
             have Ny151:=Aside0.mk hy151
             clear hy151
             have H':=Aside0.mk H
             clear H
             have p150 : 0 ≤ (x44_2 : Int):=Up.od
             have q150 : x44_2 < (t147.length : Int):=Up.od
             obtain ⟨ad150,e150,hx150_0⟩:=Kd.at_string (Kd.R_reads' HO_42.out).2.2 x44_2 p150 q150
             cases e150
             replace p150:=eq_true p150
             replace q150:=eq_true q150
             go_wp2_with (first | ((with_reducible refine gate_builtin (b:=.append) (xs:=#[.tmp 48,.tmp 51]) rfl ?_);at_builtin;refine Kd.R_append k46 (w0:=w) w.heap.size rfl (.tmp 48) (.tmp 51) 49 46 (.agg #[(.string ⟨#[]⟩),(.int .i64 0),(.int .i64 0)]) 32 rfl Tryd.underlying49 info46 rfl (by decide) (by omega) u1 x1_2 (⟨rdOf ByteArray.empty t147 x44_2,3,0⟩ : S46) [.string (rdOf ByteArray.empty t147 x44_2),.int .i64 3,.int .i64 0] (fun _ => True) (fun _ => False) rfl rfl ?aP (fun _ hk => hk.elim) ?aF ?aO ?aB ?aS ?aL ?_;(case aP => exact k46_mkM _ _ _ (⟨rdOf ByteArray.empty t147 x44_2,3,0⟩ : S46));(case aB => exact (Up.Bup HB));(case aF => exact (fun _ _ => trivial));(case aO => exact (Up.Rup HO_1));(case aS => exact (below_size (Up.Bup HB)));(case aL => have:=LMc32.out;omega);intro v152 w33 ho hb hg hat;rw [← Ny151.out] at ho;have n0_:=Aside0.mk (Kd.R_over' (Up.Rup HO_42) (Kd.R_typed (Up.Rup HO_1)) (by decide) hg);have n1_:=Aside0.mk (hb);have n2_:=Aside0.mk (ho);clear HO_42 HB HO_1;have HO_42:=n0_;have HB:=n1_;have HO153:=n2_;clear n0_ n1_ n2_ ho hb hg hat))
             go_roundg k2
             case measure => have:=HK1.out;have:=HK2.out;omega
             case rel => exact ⟨(y151),(wrap64 (x44_2 + 1)),(by first | rfl | (simp;done) | (simp [*];done)),H',⟨by have:=HK1.out;have:=HK2.out;omega⟩,⟨Up.Rup HO153⟩,⟨Up.Rup HO_42⟩,⟨Up.Bup HB⟩⟩
            ·rw [if_neg c32] at H
             exact absurd H (by simp)
           ·rw [if_neg c31] at H
            exact absurd H (by simp)
          ·rw [if_neg c30] at H
           exact absurd H (by simp)
         ·rw [if_neg c29] at H
          have c29b0 : decide (x44_2 < (t147.length : Int)) = false:=decide_eq_false c29
          clear c29
          obtain ⟨y154,hy154⟩ : ∃ y_ : List (S46),y_ = (([(⟨(⟨#[106,117,109,112]⟩ : ByteArray),40,0⟩ : S46),(⟨(⟨#[122,101,114,111]⟩ : ByteArray),40,0⟩ : S46),(⟨(⟨#[99,97,108,108]⟩ : ByteArray),3,4⟩ : S46),(⟨(⟨#[114,101,116]⟩ : ByteArray),0,0⟩ : S46),(⟨(⟨#[102,97,105,108]⟩ : ByteArray),0,0⟩ : S46)] : List (S46))):=⟨_,rfl⟩
          replace H : (if x1_2.length + y154.length < 4398046511104 then (some (x1_2 ++ y154)) else (none)) = some r:=by first | (rw [hy154];with_reducible exact H) | (have H2_:=(Option.bind_some _ _).symm.trans H;rw [hy154];with_reducible exact H2_) | (have H2_:=(Option.bind_some _ _).symm.trans H;with_reducible exact H2_) | with_reducible exact H | (rw [hy154];exact H) | exact H
          have Ny154:=Aside0.mk hy154
          clear hy154
          by_cases c34 : x1_2.length + y154.length < 4398046511104
          ·rw [if_pos c34] at H
           have LMc34:=Aside0.mk c34
           clear c34
           obtain ⟨y157,hy157⟩ : ∃ y_ : List (S46),y_ = (x1_2 ++ y154):=⟨_,rfl⟩
           replace H : (some y157) = some r:=by first | (rw [hy157];with_reducible exact H) | (have H2_:=(Option.bind_some _ _).symm.trans H;rw [hy157];with_reducible exact H2_) | (have H2_:=(Option.bind_some _ _).symm.trans H;with_reducible exact H2_) | with_reducible exact H | (rw [hy157];exact H) | exact H
           have Ny157:=Aside0.mk hy157
           clear hy157
           obtain rfl:=Option.some.inj H
           go_wp2_with (first | ((with_reducible refine gate_dst (N:=60) rfl ?_);refine Kd.R_lit k46 _ 46 ?hg (N:=60) ?hd (xs:=([(⟨(⟨#[106,117,109,112]⟩ : ByteArray),40,0⟩ : S46),(⟨(⟨#[122,101,114,111]⟩ : ByteArray),40,0⟩ : S46),(⟨(⟨#[99,97,108,108]⟩ : ByteArray),3,4⟩ : S46),(⟨(⟨#[114,101,116]⟩ : ByteArray),0,0⟩ : S46),(⟨(⟨#[102,97,105,108]⟩ : ByteArray),0,0⟩ : S46)] : List (S46))) (inner:=[.string (⟨#[106,117,109,112]⟩ : ByteArray),.int .i64 40,.int .i64 0,.string (⟨#[122,101,114,111]⟩ : ByteArray),.int .i64 40,.int .i64 0,.string (⟨#[99,97,108,108]⟩ : ByteArray),.int .i64 3,.int .i64 4,.string (⟨#[114,101,116]⟩ : ByteArray),.int .i64 0,.int .i64 0,.string (⟨#[102,97,105,108]⟩ : ByteArray),.int .i64 0,.int .i64 0]) (ok:=fun _ => True) (okp:=fun _ => True) ?hr ?hp (fun _ hk => hk) trivial (Below.refl _ _) (Nat.le_refl _) (by simp) ?_;(case hd => rfl);(case hg => rfl);(case hr => first | (go_simp;done) | (go_simp;rfl));(case hp => exact (Reps.c3 (show Kd.M k46 _ _ _ (⟨(⟨#[106,117,109,112]⟩ : ByteArray),40,0⟩ : S46) [.string (⟨#[106,117,109,112]⟩ : ByteArray),.int .i64 40,.int .i64 0] from (k46_mkM _ _ _ (⟨(⟨#[106,117,109,112]⟩ : ByteArray),40,0⟩ : S46) )) (Reps.c3 (show Kd.M k46 _ _ _ (⟨(⟨#[122,101,114,111]⟩ : ByteArray),40,0⟩ : S46) [.string (⟨#[122,101,114,111]⟩ : ByteArray),.int .i64 40,.int .i64 0] from (k46_mkM _ _ _ (⟨(⟨#[122,101,114,111]⟩ : ByteArray),40,0⟩ : S46) )) (Reps.c3 (show Kd.M k46 _ _ _ (⟨(⟨#[99,97,108,108]⟩ : ByteArray),3,4⟩ : S46) [.string (⟨#[99,97,108,108]⟩ : ByteArray),.int .i64 3,.int .i64 4] from (k46_mkM _ _ _ (⟨(⟨#[99,97,108,108]⟩ : ByteArray),3,4⟩ : S46) )) (Reps.c3 (show Kd.M k46 _ _ _ (⟨(⟨#[114,101,116]⟩ : ByteArray),0,0⟩ : S46) [.string (⟨#[114,101,116]⟩ : ByteArray),.int .i64 0,.int .i64 0] from (k46_mkM _ _ _ (⟨(⟨#[114,101,116]⟩ : ByteArray),0,0⟩ : S46) )) (Reps.c3 (show Kd.M k46 _ _ _ (⟨(⟨#[102,97,105,108]⟩ : ByteArray),0,0⟩ : S46) [.string (⟨#[102,97,105,108]⟩ : ByteArray),.int .i64 0,.int .i64 0] from (k46_mkM _ _ _ (⟨(⟨#[102,97,105,108]⟩ : ByteArray),0,0⟩ : S46) )) (Reps.none _ _)))))));intro v155 w35 ho36 hb hg_ hnew_;clear hg_ hnew_;(first | rw [← Ny154.out] at ho36 | (simp only [Int.reduceToNat] at ho36;rw [← Ny154.out] at ho36));have n0_:=Aside0.mk (Kd.R_elder' (Up.Rup HO_1) (Kd.R_base ho36) hb);have n1_:=Up.RB HO_42 hb;have n2_:=Aside0.mk (Kd.R_lower (Kd.R_new' ho36 (Kd.R_lt (Up.Rup HO_1))) (below_size (Up.Bup HB)));have n3_:=Up.BB HB hb;clear HO_1 HO_42 HB;have HO_1:=n0_;have HO_42:=n1_;have HO156:=n2_;have HB:=n3_;clear n0_ n1_ n2_ n3_ hb ho36;obtain ⟨Ao38,co38,eo38⟩:=Kd.R_slice HO156.out;subst eo38) | ((with_reducible refine gate_builtin (b:=.append) (xs:=#[.tmp 54,.tmp 60]) rfl ?_);at_builtin;refine Kd.R_append_rows k46 (w0:=w) w.heap.size rfl (.tmp 54) (.tmp 60) 49 46 (.agg #[(.string ⟨#[]⟩),(.int .i64 0),(.int .i64 0)]) 32 rfl Tryd.underlying49 info46 rfl (by decide) (by omega) u1 x1_2 y154 _ _ _ (fun k_ => some k_ ≠ (.slice Ao38 y154.length co38 : Value).ownBlock) (fun _ => False) rfl rfl ?aO ?aR (fun _ _ h => h) (fun _ h => h.elim) ?aF ?aB ?aS ?aL ?_;(case aR => repeat (first | exact (Kd.R_reads' HO156.out).2.2 | (with_reducible refine Kd.C_alloc ?_ _) | (with_reducible refine Kd.C_drewN ?_ _) | (with_reducible refine Kd.C_drew ?_)));(case aB => exact (Up.Bup HB));(case aF => exact (fun k_ hk => Kd.fresh' (Kd.R_lt (Up.Rup HO156)) k_ hk));(case aO => exact (Up.Rq (Kd.R_mono HO_1.out (fun _ hk => hk.2))));(case aS => exact (below_size (Up.Bup HB)));(case aL => have:=LMc34.out;omega);intro v158 w37 ho hb hg hat;rw [← Ny157.out] at ho;have n0_:=Aside0.mk (Kd.R_over' (Up.Rup HO_42) (Kd.R_typed (Up.Rup HO_1)) (by decide) hg);have n1_:=Aside0.mk (Kd.R_after (ok:=(fun _ => True)) (Up.Rup HO156) hg hat);have n2_:=Aside0.mk (hb);have n3_:=Aside0.mk (ho);clear HO_42 HO156 HB HO_1;have HO_42:=n0_;have HO156:=n1_;have HB:=n2_;have HO159:=n3_;clear n0_ n1_ n2_ n3_ ho hb hg hat))
           go_ret
           exact ⟨_,by first | rfl | (simp [errW_none,errW_some] <;> rfl) | (simp [*,errW_none,errW_some] <;> rfl),by (with_reducible repeat (first | apply Kd.R_alloc | apply Kd.R_drewN | apply Kd.R_drew));exact Kd.R_mono HO159.out (fun _ hk => trivial),Up.Bup HB⟩
          ·rw [if_neg c34] at H
           exact absurd H (by simp)
      ·rw [if_neg c13] at H
       exact absurd H (by simp)
     ·rw [if_neg c12] at H
      exact absurd H (by simp)
    ·rw [if_neg c11] at H
     exact absurd H (by simp)

/-! ### impl_formOf: function 32 -/
def impl_formOf.l0 : Nat → ByteArray → List (S46) → Int → Int → Option (ByteArray × Int × Int × Bool)
 | 0,_,_,_,_ => none
 | k + 1,x0,x6,x7,x8 => if x8 < x7 then (if 0 ≤ x8 then (if x8 < (x6.length : Int) then (if ((rd_T46 x6 x8).f0).toList = x0.toList then (some ((rd_T46 x6 x8).f0,(rd_T46 x6 x8).f1,(rd_T46 x6 x8).f2,true)) else (impl_formOf.l0 k x0 x6 x7 (wrap64 (x8 + 1)))) else (none)) else (none)) else (some ((⟨#[]⟩ : ByteArray),0,0,false))
def impl_formOf.f (k : Nat) (a0 : ByteArray) : Option (ByteArray × Int × Int × Bool):=(impl_insForms.f k).bind fun t161 => (impl_formOf.l0 k a0 t161 (t161.length : Int) 0)
theorem impl_formOf.mono_l : ∀ k,(∀ y0 y1 y2 y3,LeO (impl_formOf.l0 k y0 y1 y2 y3) (impl_formOf.l0 (k + 1) y0 y1 y2 y3))
 | 0 => fun _ _ _ _ r h => by simp [impl_formOf.l0] at h
 | k + 1 => by
  have ih0:=impl_formOf.mono_l k
  ·intro y0 y1 y2 y3
   unfold impl_formOf.l0
   repeat' first
   | (with_reducible exact ih0 _ _ _ _)
   | (with_reducible exact impl_insForms.mono _)
   | (with_reducible exact LeO.refl _)
   | (with_reducible exact LeO.none _)
   | (with_reducible refine LeO.ite ?_ ?_)
   | (with_reducible refine LeO.bind ?_ (fun _ => ?_))
   | exact ih0 _ _ _ _
   | exact impl_insForms.mono _
   | exact LeO.none _
   | refine LeO.ite ?_ ?_
   | refine LeO.bind ?_ (fun _ => ?_)
theorem impl_formOf.mono : ∀ a0 k,LeO (impl_formOf.f k a0) (impl_formOf.f (k + 1) a0):=by
 intro a0 k
 have ih0:=impl_formOf.mono_l k
 unfold impl_formOf.f
 repeat' first
   | (with_reducible exact ih0 _ _ _ _)
   | (with_reducible exact impl_insForms.mono _)
   | (with_reducible exact LeO.refl _)
   | (with_reducible exact LeO.none _)
   | (with_reducible refine LeO.ite ?_ ?_)
   | (with_reducible refine LeO.bind ?_ (fun _ => ?_))
   | exact ih0 _ _ _ _
   | exact impl_insForms.mono _
   | exact LeO.none _
   | refine LeO.ite ?_ ?_
   | refine LeO.bind ?_ (fun _ => ?_)
set_option maxHeartbeats 8000000 in
set_option maxRecDepth 100000 in
theorem impl_formOf.calls (k : Nat) (a0 : ByteArray) (r1 : ByteArray) (r2 : Int) (r3 : Int) (r4 : Bool) (w : World) (hT_ : Tab w) (h : impl_formOf.f k a0 = some (r1,r2,r3,r4)) :
  Calls Tryd.prog 32 #[.string a0] w fun e w' => e = .returned (.tuple #[.agg #[.string r1,.int .i64 r2,.int .i64 r3],.bool r4]) ∧ Below w.heap.size w w':=by
 have hu46:=Tryd.underlying46
 have HB:=Aside0.mk (Below.refl w.heap.size w)
 have H : ((impl_insForms.f k).bind fun t161 => (impl_formOf.l0 k a0 t161 (t161.length : Int) 0)) = some (r1,r2,r3,r4):=h
 clear h
 replace H:=Option.bind_eq_some_iff.mp H
 obtain ⟨t161,A20,H⟩:=H
 replace H : (impl_formOf.l0 k a0 t161 (t161.length : Int) 0) = some (r1,r2,r3,r4):=H
 have A2:=Aside0.mk A20
 clear A20
 have H':=Aside0.mk H
 clear H
 go_enter Tryd.func32,Tryd.ntmps32
 go_wp2_with (first | ((with_reducible refine gate_dst (N:=2) rfl ?_);refine Up.bx 2 46 #[.string (⟨#[]⟩ : ByteArray),.int .i64 0,.int .i64 0] ?_;intro gb160 hg w3 hbox hb;have n0_:=Up.BB HB hb;have n1_:=Aside0.mk (hbox);have n2_:=Up.gw hg HB;have n3_:=Up.gw hg HB;clear HB;have HB:=n0_;have BK160:=n1_;have GW160:=n2_;have GE160:=n3_;clear n0_ n1_ n2_ n3_ hb hbox hg) | ((with_reducible refine gate_callee (f:=34) rfl ?_);refine Up.gl (some 6) Tryd.func34 #[] ?_;(with_reducible refine (impl_insForms.calls (hT_:=?tab1) k  t161 _ A2.out).mono ?_);(case tab1 => exact hT_.below (Up.Bx HB));rintro e w4 ⟨v162,rfl,ho0,hb⟩;refine ⟨_,rfl,?_⟩;have n0_:=Aside0.mk (Kd.R_lower (Kd.R_newB ho0 (g:=gb160) (o:=.cells #[.string (⟨#[]⟩ : ByteArray),.int .i64 0,.int .i64 0] 46 (0,0)) (Up.Kup BK160)) (below_size (Up.Bx HB)));have n1_:=Up.KB BK160 hb;have n2_:=Aside0.mk (below_step (Up.Bx HB) hb);clear BK160 HB;have HO163:=n0_;have BK160:=n1_;have HB:=n2_;clear n0_ n1_ n2_;(try clear hb);(try clear hb2);(try clear hk);(try clear hi);(try clear ho0);obtain ⟨Ao5,co5,eo5⟩:=Kd.R_slice HO163.out;subst eo5))
 go_loopg [8] k (fun kq v8 w' => ∃ (x8_1 : Int) (x161000_1 : ByteArray) (x161001_1 : Int) (x161002_1 : Int),v8 = .int .i64 x8_1 ∧ Aside0 (impl_formOf.l0 kq a0 t161 (t161.length : Int) x8_1 = some (r1,r2,r3,r4)) ∧ Aside0 (kq ≤ k) ∧ Aside0 (Kd.R k46 46 w' w.heap.size (fun k_ => k_ ≠ gb160) (.slice Ao5 t161.length co5) t161) ∧ Aside0 (w'.heap[gb160]? = some (.cells #[.string x161000_1,.int .i64 x161001_1,.int .i64 x161002_1] 46 (0,0))) ∧ Aside0 (Below w.heap.size w w'))
 case atStart => exact ⟨(0),((⟨#[]⟩ : ByteArray)),(0),(0),(by first | rfl | (simp;done) | (simp [*];done)),H',⟨Nat.le_refl _⟩,⟨by (with_reducible repeat (first | apply Kd.R_alloc | apply Kd.R_drewN | apply Kd.R_drew));exact Kd.R_mono HO163.out (fun _ hk => hk.2)⟩,⟨by (with_reducible repeat (first | refine blk_drewN ?_ _ | refine blk_drew ?_ | refine blk_alloc ?_ _));exact BK160.out⟩,⟨Up.Bx HB⟩⟩
 case round =>
  clear H'
  try clear p2
  try clear c3
  obtain ⟨x8_1,x161000_1,x161001_1,x161002_1,rfl,HA,HK1,HO_6,BK160,HB⟩:=hrel
  cases gk with
  | zero => exact absurd HA.out (by simp [impl_formOf.l0])
  | succ k1 =>
   have H:=HA.out
   clear HA
   simp only [impl_formOf.l0] at H
   by_cases c6 : x8_1 < (t161.length : Int)
   ·rw [if_pos c6] at H
    have c6b0 : decide (x8_1 < (t161.length : Int)) = true:=decide_eq_true c6
    clear c6
    by_cases c7 : 0 ≤ x8_1
    ·rw [if_pos c7] at H
     have c7b0 : decide (0 ≤ x8_1) = true:=decide_eq_true c7
     clear c7
     by_cases c8 : x8_1 < (t161.length : Int)
     ·rw [if_pos c8] at H
      have c8b0 : decide (x8_1 < (t161.length : Int)) = true:=decide_eq_true c8
      clear c8
      by_cases c9 : ((rd_T46 t161 x8_1).f0).toList = a0.toList
      ·rw [if_pos c9] at H
       have c9b0 : (((rd_T46 t161 x8_1).f0).toList == a0.toList) = true:=beq_iff_eq.mpr c9
       have c9b1 : (((rd_T46 t161 x8_1).f0).toList != a0.toList) = false:=bne_eq_false_iff_eq.mpr c9
       clear c9
       simp only [Option.some.injEq,Prod.mk.injEq] at H
       obtain ⟨rfl,rfl,rfl,rfl⟩:=H
       have p164 : 0 ≤ (x8_1 : Int):=Up.od
       have q164 : x8_1 < (t161.length : Int):=Up.od
       obtain ⟨ad164,e164,hx164_0,hx164_1,hx164_2⟩:=at_T46 (Kd.R_reads' HO_6.out).2.2 x8_1 p164 q164
       cases e164
       replace p164:=eq_true p164
       replace q164:=eq_true q164
       go_wp2_with (first | ((with_reducible refine gate_dst (N:=5) rfl ?_);refine Up.bx 5 46 #[.string (⟨#[]⟩ : ByteArray),.int .i64 0,.int .i64 0] ?_;intro gb165 hg w10 hbox hb;have n0_:=Aside0.mk (Kd.R_below (Kd.R_elderB (Up.Rup HO_6) gb165 (Nat.le_of_eq hg.symm)) hb);have n1_:=Up.KB BK160 hb;have n2_:=Aside0.mk (below_step (Up.Bx HB) hb);have n3_:=Aside0.mk (hbox);have n4_:=Up.gw hg HB;have n5_:=Up.gw hg HB;have n6_:=Up.nl hg BK160;have n7_:=Up.ng hg BK160;clear HO_6 BK160 HB;have HO_6:=n0_;have BK160:=n1_;have HB:=n2_;have BK165:=n3_;have GW165:=n4_;have GE165:=n5_;have NB160_165:=n6_;have NB165_160:=n7_;clear n0_ n1_ n2_ n3_ n4_ n5_ n6_ n7_ hb hbox hg;have hnb11:=NB165_160.out;have hnc11:=NB160_165.out;have hcz12_0:=Up.c0 BK165;have hcz12_1:=Up.c1 BK165;have hcz12_2:=Up.c2 BK165;have hfz12_0:=blk_frozen BK165.out 0;have hfz12_1:=blk_frozen BK165.out 1;have hfz12_2:=blk_frozen BK165.out 2;have hcz13_0:=Up.c0 BK160;have hcz13_1:=Up.c1 BK160;have hcz13_2:=Up.c2 BK160;have hfz13_0:=blk_frozen BK160.out 0;have hfz13_1:=blk_frozen BK160.out 1;have hfz13_2:=blk_frozen BK160.out 2))
       refine bodyPost_ret (results_ct rfl _ _ gb160 46 #[.string ((rd_T46 t161 x8_1).f0),.int .i64 ((rd_T46 t161 x8_1).f1),.int .i64 ((rd_T46 t161 x8_1).f2)] (0,0) _ rfl (Up.Kx BK160) Tryd.underlying46 rfl (by kernel_rfl)) rfl ?_
       exact Up.e1 (Up.Bx HB)
      ·rw [if_neg c9] at H
       have c9b0 : (((rd_T46 t161 x8_1).f0).toList == a0.toList) = false:=beq_eq_false_iff_ne.mpr c9
       have c9b1 : (((rd_T46 t161 x8_1).f0).toList != a0.toList) = true:=bne_iff_ne.mpr c9
       have H':=Aside0.mk H
       clear H
       have p164 : 0 ≤ (x8_1 : Int):=Up.od
       have q164 : x8_1 < (t161.length : Int):=Up.od
       obtain ⟨ad164,e164,hx164_0,hx164_1,hx164_2⟩:=at_T46 (Kd.R_reads' HO_6.out).2.2 x8_1 p164 q164
       cases e164
       replace p164:=eq_true p164
       replace q164:=eq_true q164
       go_wp2_with (first | ((with_reducible refine gate_dst (N:=5) rfl ?_);refine Up.bx 5 46 #[.string (⟨#[]⟩ : ByteArray),.int .i64 0,.int .i64 0] ?_;intro gb165 hg w14 hbox hb;have n0_:=Aside0.mk (Kd.R_below (Kd.R_elderB (Up.Rup HO_6) gb165 (Nat.le_of_eq hg.symm)) hb);have n1_:=Up.KB BK160 hb;have n2_:=Aside0.mk (below_step (Up.Bx HB) hb);have n3_:=Aside0.mk (hbox);have n4_:=Up.gw hg HB;have n5_:=Up.gw hg HB;have n6_:=Up.nl hg BK160;have n7_:=Up.ng hg BK160;clear HO_6 BK160 HB;have HO_6:=n0_;have BK160:=n1_;have HB:=n2_;have BK165:=n3_;have GW165:=n4_;have GE165:=n5_;have NB160_165:=n6_;have NB165_160:=n7_;clear n0_ n1_ n2_ n3_ n4_ n5_ n6_ n7_ hb hbox hg;have hnb15:=NB165_160.out;have hnc15:=NB160_165.out;have hcz16_0:=Up.c0 BK165;have hcz16_1:=Up.c1 BK165;have hcz16_2:=Up.c2 BK165;have hfz16_0:=blk_frozen BK165.out 0;have hfz16_1:=blk_frozen BK165.out 1;have hfz16_2:=blk_frozen BK165.out 2))
       go_roundg k1
       case measure => have:=HK1.out;omega
       case rel => exact ⟨(wrap64 (x8_1 + 1)),(x161000_1),(x161001_1),(x161002_1),(by first | rfl | (simp;done) | (simp [*];done)),H',⟨by have:=HK1.out;omega⟩,⟨by (with_reducible repeat (first | apply Kd.R_alloc | apply Kd.R_drewN | apply Kd.R_drew));exact Kd.R_mono (Kd.R_far (p:=⟨gb165,2,none⟩) (Kd.R_far (p:=⟨gb165,1,none⟩) (Kd.R_far (p:=⟨gb165,0,none⟩) (Kd.R_mono HO_6.out (fun k_ hk => (⟨hk,hk.2⟩ : _ ∧ k_ ≠ gb165))) (fun _ hk => hk.2) (.string ((rd_T46 t161 x8_1).f0))) (fun _ hk => hk.2) (.int .i64 ((rd_T46 t161 x8_1).f1))) (fun _ hk => hk.2) (.int .i64 ((rd_T46 t161 x8_1).f2))) (fun _ hk => hk.1.1)⟩,⟨by (with_reducible repeat (first | refine blk_drewN ?_ _ | refine blk_drew ?_ | refine blk_alloc ?_ _));refine blk_far ?_ NB160_165.out _;(with_reducible repeat (first | refine blk_drewN ?_ _ | refine blk_drew ?_ | refine blk_alloc ?_ _));refine blk_far ?_ NB160_165.out _;(with_reducible repeat (first | refine blk_drewN ?_ _ | refine blk_drew ?_ | refine blk_alloc ?_ _));refine blk_far ?_ NB160_165.out _;(with_reducible repeat (first | refine blk_drewN ?_ _ | refine blk_drew ?_ | refine blk_alloc ?_ _));exact BK160.out⟩,⟨Up.Bx HB⟩⟩
     ·rw [if_neg c8] at H
      exact absurd H (by simp)
    ·rw [if_neg c7] at H
     exact absurd H (by simp)
   ·rw [if_neg c6] at H
    have c6b0 : decide (x8_1 < (t161.length : Int)) = false:=decide_eq_false c6
    clear c6
    simp only [Option.some.injEq,Prod.mk.injEq] at H
    obtain ⟨rfl,rfl,rfl,rfl⟩:=H
    have hcz17_0:=Up.c0 BK160
    have hcz17_1:=Up.c1 BK160
    have hcz17_2:=Up.c2 BK160
    have hfz17_0:=blk_frozen BK160.out 0
    have hfz17_1:=blk_frozen BK160.out 1
    have hfz17_2:=blk_frozen BK160.out 2
    go_wp2
    refine bodyPost_ret (results_ct rfl _ _ gb160 46 #[.string (⟨#[]⟩ : ByteArray),.int .i64 0,.int .i64 0] (0,0) _ rfl (Up.Kx BK160) Tryd.underlying46 rfl (by kernel_rfl)) rfl ?_
    exact Up.e1 (Up.Bx HB)

/-! ### impl_limitOk: function 33 -/
def impl_limitOk.f (a0 : Int) (a1 : Int) : Option (Bool):=if a1 = 0 then (some true) else (if a1 > 0 then (some (decide (a1 < a0))) else (some false))
set_option maxHeartbeats 8000000 in
set_option maxRecDepth 100000 in
theorem impl_limitOk.calls (a0 : Int) (a1 : Int) (r : Bool) (w : World) (h : impl_limitOk.f a0 a1 = some r) :
  Calls Tryd.prog 33 #[.int .i64 a0,.int .i64 a1] w fun e w' => e = .returned (.bool r) ∧ Drawn0 w w':=by
 have H : (if a1 = 0 then (some true) else (if a1 > 0 then (some (decide (a1 < a0))) else (some false))) = some r:=h
 clear h
 by_cases c3 : a1 = 0
 ·rw [if_pos c3] at H
  have c3b0 : (a1 == 0) = true:=beq_iff_eq.mpr c3
  have c3b1 : (a1 != 0) = false:=bne_eq_false_iff_eq.mpr c3
  clear c3
  obtain rfl:=Option.some.inj H
  go_enter Tryd.func33,Tryd.ntmps33
  go_wp2
  go_ret
  exact Up.e2
 ·rw [if_neg c3] at H
  have c3b0 : (a1 == 0) = false:=beq_eq_false_iff_ne.mpr c3
  have c3b1 : (a1 != 0) = true:=bne_iff_ne.mpr c3
  by_cases c4 : a1 > 0
  ·rw [if_pos c4] at H
   have c4b0 : decide (0 < a1) = true:=decide_eq_true c4
   clear c4
   obtain rfl:=Option.some.inj H
   go_enter Tryd.func33,Tryd.ntmps33
   go_wp2
   go_ret
   exact Up.e2
  ·rw [if_neg c4] at H
   have c4b0 : decide (0 < a1) = false:=decide_eq_false c4
   clear c4
   obtain rfl:=Option.some.inj H
   go_enter Tryd.func33,Tryd.ntmps33
   go_wp2
   go_ret
   exact Up.e2

/-! ### impl_InsOk: function 14 -/
def impl_InsOk.f (k : Nat) (a0_0 : ByteArray) (a0_1 : Int) (a0_2 : Int) : Option (Bool):=(impl_formOf.f k a0_0).bind fun bt167 => (if bt167.2.2.2 = true then ((impl_limitOk.f bt167.2.1 a0_1).bind fun t172 => (if t172 = true then ((impl_limitOk.f bt167.2.2.1 a0_2).bind fun t173 => (some t173)) else (some false))) else (some false))
theorem impl_InsOk.mono : ∀ a0 a1 a2 k,LeO (impl_InsOk.f k a0 a1 a2) (impl_InsOk.f (k + 1) a0 a1 a2):=by
 intro a0 a1 a2 k
 unfold impl_InsOk.f
 repeat' first
   | (with_reducible exact impl_formOf.mono _ _)
   | (with_reducible exact LeO.refl _)
   | (with_reducible exact LeO.none _)
   | (with_reducible refine LeO.ite ?_ ?_)
   | (with_reducible refine LeO.bind ?_ (fun _ => ?_))
   | exact impl_formOf.mono _ _
   | exact LeO.none _
   | refine LeO.ite ?_ ?_
   | refine LeO.bind ?_ (fun _ => ?_)
set_option maxHeartbeats 8000000 in
set_option maxRecDepth 100000 in
theorem impl_InsOk.calls (k : Nat) (a0_0 : ByteArray) (a0_1 : Int) (a0_2 : Int) (r : Bool) (w : World) (hT_ : Tab w) (h : impl_InsOk.f k a0_0 a0_1 a0_2 = some r) :
  Calls Tryd.prog 14 #[.agg #[.string a0_0,.int .i64 a0_1,.int .i64 a0_2]] w fun e w' => e = .returned (.bool r) ∧ Below w.heap.size w w':=by
 have hu26:=Tryd.underlying26
 have hu46:=Tryd.underlying46
 have HB:=Aside0.mk (Below.refl w.heap.size w)
 have H : ((impl_formOf.f k a0_0).bind fun bt167 => (if bt167.2.2.2 = true then ((impl_limitOk.f bt167.2.1 a0_1).bind fun t172 => (if t172 = true then ((impl_limitOk.f bt167.2.2.1 a0_2).bind fun t173 => (some t173)) else (some false))) else (some false))) = some r:=h
 clear h
 replace H:=Option.bind_eq_some_iff.mp H
 obtain ⟨⟨t167,t168,t169,t170⟩,A20,H⟩:=H
 replace H : (if t170 = true then ((impl_limitOk.f t168 a0_1).bind fun t172 => (if t172 = true then ((impl_limitOk.f t169 a0_2).bind fun t173 => (some t173)) else (some false))) else (some false)) = some r:=H
 have A2:=Aside0.mk A20
 clear A20
 by_cases c3 : t170 = true
 ·subst c3
  have H1 : ((impl_limitOk.f t168 a0_1).bind fun t172 => (if t172 = true then ((impl_limitOk.f t169 a0_2).bind fun t173 => (some t173)) else (some false))) = some r:=by rw [if_pos rfl] at H;exact H
  clear H
  have H:=H1
  clear H1
  replace H:=Option.bind_eq_some_iff.mp H
  obtain ⟨t172,A40,H⟩:=H
  replace H : (if t172 = true then ((impl_limitOk.f t169 a0_2).bind fun t173 => (some t173)) else (some false)) = some r:=H
  have A4:=Aside0.mk A40
  clear A40
  by_cases c5 : t172 = true
  ·subst c5
   have H1 : ((impl_limitOk.f t169 a0_2).bind fun t173 => (some t173)) = some r:=by rw [if_pos rfl] at H;exact H
   clear H
   have H:=H1
   clear H1
   replace H:=Option.bind_eq_some_iff.mp H
   obtain ⟨t173,A60,H⟩:=H
   replace H : (some t173) = some r:=H
   have A6:=Aside0.mk A60
   clear A60
   obtain rfl:=Option.some.inj H
   go_enter Tryd.func14,Tryd.ntmps14
   go_wp2_with (first | ((with_reducible refine gate_dst (N:=1) rfl ?_);refine Up.bx 1 26 #[.string a0_0,.int .i64 a0_1,.int .i64 a0_2] ?_;intro gb166 hg w7 hbox hb;have n0_:=Up.BB HB hb;have n1_:=Aside0.mk (hbox);have n2_:=Up.gw hg HB;have n3_:=Up.gw hg HB;clear HB;have HB:=n0_;have BK166:=n1_;have GW166:=n2_;have GE166:=n3_;clear n0_ n1_ n2_ n3_ hb hbox hg;have hcz8_0:=Up.c0 BK166;have hcz8_1:=Up.c1 BK166;have hcz8_2:=Up.c2 BK166;have hfz8_0:=blk_frozen BK166.out 0;have hfz8_1:=blk_frozen BK166.out 1;have hfz8_2:=blk_frozen BK166.out 2) | ((with_reducible refine gate_callee (f:=32) rfl ?_);refine Up.gl (some 8) Tryd.func32 #[.string a0_0] ?_;(with_reducible refine (impl_formOf.calls (hT_:=?tab1) k a0_0 t167 t168 t169 true _ A2.out).mono ?_);(case tab1 => exact hT_.below (Up.Bx HB));rintro e w9 ⟨rfl,hb⟩;refine ⟨_,rfl,?_⟩;have n0_:=Up.KB BK166 hb;have n1_:=Aside0.mk (below_step (Up.Bx HB) hb);clear BK166 HB;have BK166:=n0_;have HB:=n1_;clear n0_ n1_;(try clear hb);(try clear hb2);(try clear hk);(try clear hi)) | ((with_reducible refine gate_dst (N:=3) rfl ?_);refine Up.bx 3 46 #[.string (⟨#[]⟩ : ByteArray),.int .i64 0,.int .i64 0] ?_;intro gb171 hg w10 hbox hb;have n0_:=Up.KB BK166 hb;have n1_:=Aside0.mk (below_step (Up.Bx HB) hb);have n2_:=Aside0.mk (hbox);have n3_:=Up.gw hg HB;have n4_:=Up.gw hg HB;have n5_:=Up.nl hg BK166;have n6_:=Up.ng hg BK166;clear BK166 HB;have BK166:=n0_;have HB:=n1_;have BK171:=n2_;have GW171:=n3_;have GE171:=n4_;have NB166_171:=n5_;have NB171_166:=n6_;clear n0_ n1_ n2_ n3_ n4_ n5_ n6_ hb hbox hg;have hnb11:=NB171_166.out;have hnc11:=NB166_171.out;have hcz12_0:=Up.c0 BK171;have hcz12_1:=Up.c1 BK171;have hcz12_2:=Up.c2 BK171;have hfz12_0:=blk_frozen BK171.out 0;have hfz12_1:=blk_frozen BK171.out 1;have hfz12_2:=blk_frozen BK171.out 2;have hcz13_0:=Up.c0 BK166;have hcz13_1:=Up.c1 BK166;have hcz13_2:=Up.c2 BK166;have hfz13_0:=blk_frozen BK166.out 0;have hfz13_1:=blk_frozen BK166.out 1;have hfz13_2:=blk_frozen BK166.out 2) | (go_at_call 33;(with_reducible refine (impl_limitOk.calls t168 a0_1 true _ A4.out).mono ?_);rintro e w' ⟨rfl,⟨nd,rfl⟩⟩) | (go_at_call 33;(with_reducible refine (impl_limitOk.calls t169 a0_2 t173 _ A6.out).mono ?_);rintro e w' ⟨rfl,⟨nd,rfl⟩⟩))
   go_ret
   exact Up.e1 (Up.Bx HB)
  ·replace c5:=Bool.eq_false_iff.mpr c5
   subst c5
   have H1 : (some false) = some r:=by rw [if_neg (show ¬ (false = true) by decide)] at H;exact H
   clear H
   have H:=H1
   clear H1
   obtain rfl:=Option.some.inj H
   go_enter Tryd.func14,Tryd.ntmps14
   go_wp2_with (first | ((with_reducible refine gate_dst (N:=1) rfl ?_);refine Up.bx 1 26 #[.string a0_0,.int .i64 a0_1,.int .i64 a0_2] ?_;intro gb166 hg w14 hbox hb;have n0_:=Up.BB HB hb;have n1_:=Aside0.mk (hbox);have n2_:=Up.gw hg HB;have n3_:=Up.gw hg HB;clear HB;have HB:=n0_;have BK166:=n1_;have GW166:=n2_;have GE166:=n3_;clear n0_ n1_ n2_ n3_ hb hbox hg;have hcz15_0:=Up.c0 BK166;have hcz15_1:=Up.c1 BK166;have hcz15_2:=Up.c2 BK166;have hfz15_0:=blk_frozen BK166.out 0;have hfz15_1:=blk_frozen BK166.out 1;have hfz15_2:=blk_frozen BK166.out 2) | ((with_reducible refine gate_callee (f:=32) rfl ?_);refine Up.gl (some 8) Tryd.func32 #[.string a0_0] ?_;(with_reducible refine (impl_formOf.calls (hT_:=?tab1) k a0_0 t167 t168 t169 true _ A2.out).mono ?_);(case tab1 => exact hT_.below (Up.Bx HB));rintro e w16 ⟨rfl,hb⟩;refine ⟨_,rfl,?_⟩;have n0_:=Up.KB BK166 hb;have n1_:=Aside0.mk (below_step (Up.Bx HB) hb);clear BK166 HB;have BK166:=n0_;have HB:=n1_;clear n0_ n1_;(try clear hb);(try clear hb2);(try clear hk);(try clear hi)) | ((with_reducible refine gate_dst (N:=3) rfl ?_);refine Up.bx 3 46 #[.string (⟨#[]⟩ : ByteArray),.int .i64 0,.int .i64 0] ?_;intro gb171 hg w17 hbox hb;have n0_:=Up.KB BK166 hb;have n1_:=Aside0.mk (below_step (Up.Bx HB) hb);have n2_:=Aside0.mk (hbox);have n3_:=Up.gw hg HB;have n4_:=Up.gw hg HB;have n5_:=Up.nl hg BK166;have n6_:=Up.ng hg BK166;clear BK166 HB;have BK166:=n0_;have HB:=n1_;have BK171:=n2_;have GW171:=n3_;have GE171:=n4_;have NB166_171:=n5_;have NB171_166:=n6_;clear n0_ n1_ n2_ n3_ n4_ n5_ n6_ hb hbox hg;have hnb18:=NB171_166.out;have hnc18:=NB166_171.out;have hcz19_0:=Up.c0 BK171;have hcz19_1:=Up.c1 BK171;have hcz19_2:=Up.c2 BK171;have hfz19_0:=blk_frozen BK171.out 0;have hfz19_1:=blk_frozen BK171.out 1;have hfz19_2:=blk_frozen BK171.out 2;have hcz20_0:=Up.c0 BK166;have hcz20_1:=Up.c1 BK166;have hcz20_2:=Up.c2 BK166;have hfz20_0:=blk_frozen BK166.out 0;have hfz20_1:=blk_frozen BK166.out 1;have hfz20_2:=blk_frozen BK166.out 2) | (go_at_call 33;(with_reducible refine (impl_limitOk.calls t168 a0_1 false _ A4.out).mono ?_);rintro e w' ⟨rfl,⟨nd,rfl⟩⟩))
   go_ret
   exact Up.e1 (Up.Bx HB)
 ·replace c3:=Bool.eq_false_iff.mpr c3
  subst c3
  have H1 : (some false) = some r:=by rw [if_neg (show ¬ (false = true) by decide)] at H;exact H
  clear H
  have H:=H1
  clear H1
  obtain rfl:=Option.some.inj H
  go_enter Tryd.func14,Tryd.ntmps14
  go_wp2_with (first | ((with_reducible refine gate_dst (N:=1) rfl ?_);refine Up.bx 1 26 #[.string a0_0,.int .i64 a0_1,.int .i64 a0_2] ?_;intro gb166 hg w21 hbox hb;have n0_:=Up.BB HB hb;have n1_:=Aside0.mk (hbox);have n2_:=Up.gw hg HB;have n3_:=Up.gw hg HB;clear HB;have HB:=n0_;have BK166:=n1_;have GW166:=n2_;have GE166:=n3_;clear n0_ n1_ n2_ n3_ hb hbox hg;have hcz22_0:=Up.c0 BK166;have hcz22_1:=Up.c1 BK166;have hcz22_2:=Up.c2 BK166;have hfz22_0:=blk_frozen BK166.out 0;have hfz22_1:=blk_frozen BK166.out 1;have hfz22_2:=blk_frozen BK166.out 2) | ((with_reducible refine gate_callee (f:=32) rfl ?_);refine Up.gl (some 8) Tryd.func32 #[.string a0_0] ?_;(with_reducible refine (impl_formOf.calls (hT_:=?tab1) k a0_0 t167 t168 t169 false _ A2.out).mono ?_);(case tab1 => exact hT_.below (Up.Bx HB));rintro e w23 ⟨rfl,hb⟩;refine ⟨_,rfl,?_⟩;have n0_:=Up.KB BK166 hb;have n1_:=Aside0.mk (below_step (Up.Bx HB) hb);clear BK166 HB;have BK166:=n0_;have HB:=n1_;clear n0_ n1_;(try clear hb);(try clear hb2);(try clear hk);(try clear hi)) | ((with_reducible refine gate_dst (N:=3) rfl ?_);refine Up.bx 3 46 #[.string (⟨#[]⟩ : ByteArray),.int .i64 0,.int .i64 0] ?_;intro gb171 hg w24 hbox hb;have n0_:=Up.KB BK166 hb;have n1_:=Aside0.mk (below_step (Up.Bx HB) hb);have n2_:=Aside0.mk (hbox);have n3_:=Up.gw hg HB;have n4_:=Up.gw hg HB;have n5_:=Up.nl hg BK166;have n6_:=Up.ng hg BK166;clear BK166 HB;have BK166:=n0_;have HB:=n1_;have BK171:=n2_;have GW171:=n3_;have GE171:=n4_;have NB166_171:=n5_;have NB171_166:=n6_;clear n0_ n1_ n2_ n3_ n4_ n5_ n6_ hb hbox hg;have hnb25:=NB171_166.out;have hnc25:=NB166_171.out;have hcz26_0:=Up.c0 BK171;have hcz26_1:=Up.c1 BK171;have hcz26_2:=Up.c2 BK171;have hfz26_0:=blk_frozen BK171.out 0;have hfz26_1:=blk_frozen BK171.out 1;have hfz26_2:=blk_frozen BK171.out 2))
  go_ret
  exact Up.e1 (Up.Bx HB)

/-! ### impl_insForm_many: function 48 -/
def impl_insForm_many.f (a0_0 : ByteArray) (a0_1 : Int) (a0_2 : Int) : Option (Int):=if a0_1 = 0 then (some 0) else (if a0_2 = 0 then (some 1) else (some 2))
set_option maxHeartbeats 8000000 in
set_option maxRecDepth 100000 in
theorem impl_insForm_many.calls (a0_0 : ByteArray) (a0_1 : Int) (a0_2 : Int) (r : Int) (w : World) (h : impl_insForm_many.f a0_0 a0_1 a0_2 = some r) :
  Calls Tryd.prog 48 #[.agg #[.string a0_0,.int .i64 a0_1,.int .i64 a0_2]] w fun e w' => e = .returned (.int .i64 r) ∧ Below w.heap.size w w':=by
 have hu46:=Tryd.underlying46
 have HB:=Aside0.mk (Below.refl w.heap.size w)
 have H : (if a0_1 = 0 then (some 0) else (if a0_2 = 0 then (some 1) else (some 2))) = some r:=h
 clear h
 by_cases c2 : a0_1 = 0
 ·rw [if_pos c2] at H
  have c2b0 : (a0_1 == 0) = true:=beq_iff_eq.mpr c2
  have c2b1 : (a0_1 != 0) = false:=bne_eq_false_iff_eq.mpr c2
  clear c2
  obtain rfl:=Option.some.inj H
  go_enter Tryd.func48,Tryd.ntmps48
  go_wp2_with (first | ((with_reducible refine gate_dst (N:=1) rfl ?_);refine Up.bx 1 46 #[.string a0_0,.int .i64 a0_1,.int .i64 a0_2] ?_;intro gb174 hg w3 hbox hb;have n0_:=Up.BB HB hb;have n1_:=Aside0.mk (hbox);have n2_:=Up.gw hg HB;have n3_:=Up.gw hg HB;clear HB;have HB:=n0_;have BK174:=n1_;have GW174:=n2_;have GE174:=n3_;clear n0_ n1_ n2_ n3_ hb hbox hg;have hcz4_0:=Up.c0 BK174;have hcz4_1:=Up.c1 BK174;have hcz4_2:=Up.c2 BK174;have hfz4_0:=blk_frozen BK174.out 0;have hfz4_1:=blk_frozen BK174.out 1;have hfz4_2:=blk_frozen BK174.out 2))
  go_ret
  exact Up.e1 (Up.Bx HB)
 ·rw [if_neg c2] at H
  have c2b0 : (a0_1 == 0) = false:=beq_eq_false_iff_ne.mpr c2
  have c2b1 : (a0_1 != 0) = true:=bne_iff_ne.mpr c2
  by_cases c5 : a0_2 = 0
  ·rw [if_pos c5] at H
   have c5b0 : (a0_2 == 0) = true:=beq_iff_eq.mpr c5
   have c5b1 : (a0_2 != 0) = false:=bne_eq_false_iff_eq.mpr c5
   clear c5
   obtain rfl:=Option.some.inj H
   go_enter Tryd.func48,Tryd.ntmps48
   go_wp2_with (first | ((with_reducible refine gate_dst (N:=1) rfl ?_);refine Up.bx 1 46 #[.string a0_0,.int .i64 a0_1,.int .i64 a0_2] ?_;intro gb174 hg w6 hbox hb;have n0_:=Up.BB HB hb;have n1_:=Aside0.mk (hbox);have n2_:=Up.gw hg HB;have n3_:=Up.gw hg HB;clear HB;have HB:=n0_;have BK174:=n1_;have GW174:=n2_;have GE174:=n3_;clear n0_ n1_ n2_ n3_ hb hbox hg;have hcz7_0:=Up.c0 BK174;have hcz7_1:=Up.c1 BK174;have hcz7_2:=Up.c2 BK174;have hfz7_0:=blk_frozen BK174.out 0;have hfz7_1:=blk_frozen BK174.out 1;have hfz7_2:=blk_frozen BK174.out 2))
   go_ret
   exact Up.e1 (Up.Bx HB)
  ·rw [if_neg c5] at H
   have c5b0 : (a0_2 == 0) = false:=beq_eq_false_iff_ne.mpr c5
   have c5b1 : (a0_2 != 0) = true:=bne_iff_ne.mpr c5
   obtain rfl:=Option.some.inj H
   go_enter Tryd.func48,Tryd.ntmps48
   go_wp2_with (first | ((with_reducible refine gate_dst (N:=1) rfl ?_);refine Up.bx 1 46 #[.string a0_0,.int .i64 a0_1,.int .i64 a0_2] ?_;intro gb174 hg w8 hbox hb;have n0_:=Up.BB HB hb;have n1_:=Aside0.mk (hbox);have n2_:=Up.gw hg HB;have n3_:=Up.gw hg HB;clear HB;have HB:=n0_;have BK174:=n1_;have GW174:=n2_;have GE174:=n3_;clear n0_ n1_ n2_ n3_ hb hbox hg;have hcz9_0:=Up.c0 BK174;have hcz9_1:=Up.c1 BK174;have hcz9_2:=Up.c2 BK174;have hfz9_0:=blk_frozen BK174.out 0;have hfz9_1:=blk_frozen BK174.out 1;have hfz9_2:=blk_frozen BK174.out 2))
   go_ret
   exact Up.e1 (Up.Bx HB)

end Go.Proofs.YtfkhjnmgaadomaaDoor.OFnInsOk
