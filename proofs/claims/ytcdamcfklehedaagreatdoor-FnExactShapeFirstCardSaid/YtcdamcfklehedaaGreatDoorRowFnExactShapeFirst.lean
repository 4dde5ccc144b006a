/- The statement FnExactShapeFirstSaid: for every input the law returns true and leaves its arguments as they were. No condition of our own. -/
-- squeezed
import Derived.Test.YtcdamcfklehedaaGreatDoorRows
import Derived.Test.YtcdamcfklehedaaGreatDoorCards
import Derived.Test.YtcdamcfklehedaaGreatDoorTie
import Derived.SevenTiedAt
import Derived.LaidMore
import Derived.LaidLaws
import Derived.LaidHandle
import Derived.Lay
import Derived.HandedShaped
import Derived.MakeChecks
import Derived.JoinedOf
import Derived.Lib.LaidTab
import Derived.Stop.Joined
import Derived.Stop.LaidErr
import Derived.Test.YtcdamcfklehedaaGreatDoorHandFnExactShapeFirst
import Derived.Test.YtcdamcfklehedaaGreatDoorPureFnExactShapeFirst
import Derived.Test.YtcdamcfklehedaaGreatDoorOpen
import Derived.WalkKit
import Derived.ProofKit
import Derived.OpenShut
import Derived.ShutString
import Derived.ChangeOld
import Derived.Below
import Derived.SizedLaws
namespace Go.Proofs.YtcdamcfklehedaaGreatDoor.fnExactShapeFirst
open Go.ChangeShapes Go.WideShapes Go.ChangeAt Go.RowKit
open Go.ChangeMaps (open_string shut_string)
open Go.Proofs.YtcdamcfklehedaaGreatDoor.OFnExactShapeFirst Go.Proofs.YtcdamcfklehedaaGreatDoorW.PrintWords Go.Proofs.YtcdamcfklehedaaGreatDoor.Base Go.Proofs.YtcdamcfklehedaaGreatDoor.Open
set_option linter.unusedVariables false
theorem own : ownKnob Tryz.prog.godebug = none:=by kernel_rfl
theorem laidOut : laidOutB Tryz.prog = true:=by kernel_rfl
def G124 (x : S124) : Prop:=gInt x.f0 ∧ (gL gStr) x.f1
theorem opens124 {W : World} : Opens Tryz.prog W 124 k124 G124:=opens_struct Tryz.underlying124 (by kernel_rfl) _ (fun p=>⟨p.1,p.2⟩) (fun _=>rfl) (fun n=>(opensF_cons rfl (by kernel_rfl) ((opens_int Tryz.underlying3) n) (opensF_last rfl (by kernel_rfl) ((opens_slice 9 Tryz.underlying54 (by kernel_rfl) (opens_string Tryz.underlying9)) n)))) (fun _ h=>h)
def G181 (x : S181) : Prop:=gStr x.f0 ∧ gInt x.f1 ∧ gInt x.f2
theorem opens181 {W : World} : Opens Tryz.prog W 181 k181 G181:=opens_struct Tryz.underlying181 (by kernel_rfl) _ (fun p=>⟨p.1,p.2.1,p.2.2⟩) (fun _=>rfl) (fun n=>(opensF_cons rfl (by kernel_rfl) ((opens_string Tryz.underlying9) n) (opensF_cons rfl (by kernel_rfl) ((opens_int Tryz.underlying3) n) (opensF_last rfl (by kernel_rfl) ((opens_int Tryz.underlying3) n))))) (fun _ h=>h)
def G128 (x : S128) : Prop:=gInt x.f0 ∧ (gL gStr) x.f1 ∧ (gL gStr) x.f2 ∧ (gL gStr) x.f3 ∧ (gL gInt) x.f4 ∧ (gL G181) x.f5
theorem opens128 {W : World} : Opens Tryz.prog W 128 k128 G128:=opens_struct Tryz.underlying128 (by kernel_rfl) _ (fun p=>⟨p.1,p.2.1,p.2.2.1,p.2.2.2.1,p.2.2.2.2.1,p.2.2.2.2.2⟩) (fun _=>rfl) (fun n=>(opensF_cons rfl (by kernel_rfl) ((opens_int Tryz.underlying3) n) (opensF_cons rfl (by kernel_rfl) ((opens_slice 9 Tryz.underlying54 (by kernel_rfl) (opens_string Tryz.underlying9)) n) (opensF_cons rfl (by kernel_rfl) ((opens_slice 9 Tryz.underlying54 (by kernel_rfl) (opens_string Tryz.underlying9)) n) (opensF_cons rfl (by kernel_rfl) ((opens_slice 9 Tryz.underlying54 (by kernel_rfl) (opens_string Tryz.underlying9)) n) (opensF_cons rfl (by kernel_rfl) ((opens_slice 3 Tryz.underlying38 (by kernel_rfl) (opens_int Tryz.underlying3)) n) (opensF_last rfl (by kernel_rfl) ((opens_slice 181 Tryz.underlying126 (by kernel_rfl) opens181) n)))))))) (fun _ h=>h)
def G50 (x : S50) : Prop:=(gL G124) x.f0 ∧ (gL G128) x.f1 ∧ (gL gInt) x.f2
theorem opens50 {W : World} : Opens Tryz.prog W 50 k50 G50:=opens_struct Tryz.underlying50 (by kernel_rfl) _ (fun p=>⟨p.1,p.2.1,p.2.2⟩) (fun _=>rfl) (fun n=>(opensF_cons rfl (by kernel_rfl) ((opens_slice 124 Tryz.underlying47 (by kernel_rfl) opens124) n) (opensF_cons rfl (by kernel_rfl) ((opens_slice 128 Tryz.underlying48 (by kernel_rfl) opens128) n) (opensF_last rfl (by kernel_rfl) ((opens_slice 3 Tryz.underlying38 (by kernel_rfl) (opens_int Tryz.underlying3)) n))))) (fun _ h=>h)
set_option maxRecDepth 100000
theorem door_met (os : Os) (args : Array Value) : laidMetH Tryz.prog Rows.fnExactShapeFirstRow.laid ((World.doorLaid Tryz.prog 400 os).forCall (fun _ _=>0) ⟨#[],args,[]⟩).memory :=
 laidMetH_of_parts3 (fuel:=8) (laidMet_of_run' 8 (by kernel_rfl) (by kernel_rfl)) (by kernel_rfl) (by kernel_rfl)
theorem tab_f1 {W : World} (h : laidMetH Tryz.prog Rows.fnExactShapeFirstRow.laid W) : Lib.TabIs Tryz.prog W "strings.asciiSpace" .u8 Lib.asciiSpaceTab := by
 rw [MakeChecks.laidMetH_plain _ _ _ (by kernel_rfl)] at h
 have h2 : laidMet Tryz.prog ((Rows.fnExactShapeFirstRow.laid).drop 1) W:=h.tail
 have e : (Rows.fnExactShapeFirstRow.laid).drop 1 = ("strings.asciiSpace", Lib.tabData .u8 Lib.asciiSpaceTab) :: (Rows.fnExactShapeFirstRow.laid).drop (1 + 1) := by kernel_rfl
 rw [e] at h2
 exact Lib.tabIs_of_head (g:=1) (t:=189) (e:=5) (n:=256) (by kernel_rfl) (by kernel_rfl) Tryz.underlying189 Tryz.underlying5 (by kernel_rfl) (by kernel_rfl) h2
theorem tab_of_laid {W : World} (h : laidMetH Tryz.prog Rows.fnExactShapeFirstRow.laid W) : OFnExactShapeFirst.Tab W:=⟨tab_f1 h⟩
set_option maxRecDepth 100000 in
theorem lifted (os : Os) (started : os.Started) (H : Type) (enc : TypeId × Value → H) :
  ReturnsInHanded {} Tryz.checked os 3 .any (fun w args=>(Rows.fnExactShapeFirstSpec.pre enc Tryz.prog Tryz.f3 [] false w args ∧ laidMetH Tryz.prog Rows.fnExactShapeFirstRow.laid w) ∧ sizedMet enc Tryz.prog Tryz.f3 (OpenSpec.ofChange Rows.fnExactShapeFirstSpec) false w args) (Rows.fnExactShapeFirstSpec.post enc Tryz.prog Tryz.f3 false true false false):=by
 refine returnsInHanded_of_change_and (C:=Tryz.checked) (X:=fun w _=>laidMetH Tryz.prog Rows.fnExactShapeFirstRow.laid w) (fun _ _ _ hh h=>h.of_heap hh) own started (by kernel_rfl) Tryz.func3
  (ChangeSpec.witness_shaped (enc:=enc) (C:=Tryz.checked) (os:=os) (X:=fun w _=>laidMetH Tryz.prog Rows.fnExactShapeFirstRow.laid w) false (World.doorLaid Tryz.prog 400 os) #[.slice none 0 0,.int .i64 0,.int .i64 0] 8 rfl (World.shaped_of_RefB (by kernel_rfl) (by kernel_rfl)) (by kernel_rfl) (by kernel_rfl) (by kernel_rfl) (door_met os _)) ?_
 intro W base args ds gs before hval0 hW hcnd hsz0 hL _
 have hT_:=tab_of_laid hL
 have hval : ∀ (j : Nat) t v,Tryz.f3.params[j]? = some t → args[j]? = some v → Value.okWide Tryz.prog W .any base t v:=hval0
 have hW':=hW
 obtain ⟨p,q,hA0,hV,rfl,hfz,hnd⟩:=hW
 have hA : DataW.TrodAll enc Tryz.prog W 0 (fun _=>true) true Tryz.f3.params.toList args.toList ds p:=hA0
 rw [Tryz.params3] at hA hval
 obtain ⟨v0,vs0,d0,ds0,p0,q0,hargs,rfl,rfl,h0,r0⟩:=trodAll_cons hA
 obtain ⟨v1,vs1,d1,ds1,p1,q1,rfl,rfl,rfl,h1,r1⟩:=trodAll_cons r0
 obtain ⟨v2,vs2,d2,ds2,p2,q2,rfl,rfl,rfl,h2,r2⟩:=trodAll_cons r1
 obtain ⟨rfl,rfl,rfl⟩:=trodAll_nil r2
 obtain rfl : args = #[v0,v1,v2]:=by cases args;simp_all
 obtain ⟨rfl,rfl⟩:=trodVars_none hV
 obtain ⟨A0,len0,c0,rfl⟩:=okWide_slice Tryz.underlying22 (hval 0 22 v0 rfl rfl)
 have k0:=h0
 have lt0 : ∀ x ∈ p0,x.block < W.heap.size:=by obtain ⟨m,hm⟩:=k0;exact DataW.trod_lt m _ _ _ hm
 obtain ⟨l0,rfl,hc0,hr0,g0⟩:=Opens.arg_slice (opens_slice 50 Tryz.underlying22 (by kernel_rfl) opens50) h0
 obtain ⟨a1,rfl,rfl,rfl,w1⟩:=open_int Tryz.underlying3 (hval 1 3 v1 rfl rfl) h1
 obtain ⟨a2,rfl,rfl,rfl,w2⟩:=open_int Tryz.underlying3 (hval 2 3 v2 rfl rfl) h2
 clear hA0 hval0 hsz0
 refine (Hand.fin (hT:=hT_) A0 c0 l0 a1 a2 W hr0 hc0 g0 (gInt_wf w1) (gInt_wf w2)).mono fun e W' ⟨he,bel⟩=>?_
 subst he
 exact ⟨_,rfl,_,_,_,[],_,[],hW',trodAll_mk1 (shut_bool Tryz.underlying4 _),(trodAll_cons_mk (Below.trod laidOut (by kernel_rfl) (of_decide_eq_true (by kernel_rfl)) k0 bel lt0) (trodAll_cons_mk (shut_int Tryz.underlying3 w1) (trodAll_cons_mk (shut_int Tryz.underlying3 w2) trodAll_mk0))),rfl,bel.frame _,fun h=>by cases h⟩
theorem over : Rows.fnExactShapeFirstRow.holds Tryz.pinned (OpenSpec.ofChange Rows.fnExactShapeFirstSpec) :=
 OpenClaim.holds_of_wide 3 Tryz.f3 rfl rfl rfl rfl rfl rfl rfl ⟨rfl,rfl,rfl,rfl,rfl⟩ rfl rfl rfl rfl rfl (by kernel_rfl) Tryz.func3 (by kernel_rfl)
  (of_decide_eq_true (by kernel_rfl)) (by unfold Func.isWrapper;first | (rw [if_pos (by decide +kernel)];kernel_rfl) | (rw [if_neg (by decide +kernel)];exact ⟨rfl,rfl⟩))
  (fun os started H enc _=>lifted os started H enc)
theorem proved : Rows.FnExactShapeFirstSaid:=over
#print axioms proved
theorem carded : Rows.FnExactShapeFirstCardSaid :=
 Claim7.holds_tied_plain_at .later [] [.listed, .data] true (true, "cbd0524a3bfb09ea1ca2bcdc03131c4941eb0ee5119124323767275e6d0c9dca") false
  proved (fun _ h=>by cases h) (by kernel_rfl) (fun _ h=>by cases h) fnExactShapeFirst_row_tie rfl ⟨rfl,rfl⟩ (by kernel_rfl) rfl
  (fun f fn hf hfn=>by
   obtain rfl : f = 3:=Option.some.inj ((show Tryz.prog.funcNamed Rows.fnExactShapeFirstRow.func = some 3 by kernel_rfl).symm.trans hf) |>.symm
   obtain rfl : fn = Tryz.f3:=(Option.some.inj (Tryz.func3.symm.trans hfn)).symm
   exact ⟨by kernel_rfl,fun j t ht=>by
    rw [Tryz.params3] at ht
    have hm : t ∈ [22,3,3]:=by simpa using Array.mem_of_getElem? ht
    have hall : ([22,3,3].all fun u=>!Tryz.prog.wantsStandIn u) = true:=by kernel_rfl
    exact (show Tryz.prog.wantsStandIn t = false by simpa using List.all_eq_true.1 hall t hm)⟩)
  (by kernel_rfl)
end Go.Proofs.YtcdamcfklehedaaGreatDoor.fnExactShapeFirst
namespace Go.Proofs.YtcdamcfklehedaaGreatDoor
theorem fnExactShapeFirst_holds : Rows.FnExactShapeFirstCardSaid:=fnExactShapeFirst.carded
end Go.Proofs.YtcdamcfklehedaaGreatDoor
