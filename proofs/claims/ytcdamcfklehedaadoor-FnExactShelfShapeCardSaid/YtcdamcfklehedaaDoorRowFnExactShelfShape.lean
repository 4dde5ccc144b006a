/- The statement FnExactShelfShapeSaid: for every input the law returns true and leaves its arguments as they were. No condition of our own. -/
import Derived.Test.YtcdamcfklehedaaDoorRows
import Derived.Test.YtcdamcfklehedaaDoorCards
import Derived.Test.YtcdamcfklehedaaDoorTie
import Derived.SevenTiedAt
import Derived.LaidMore
import Derived.LaidLaws
import Derived.LaidHandle
import Derived.Lay
import Derived.HandedShaped
import Derived.MakeChecks
import Derived.JoinedOf
import Derived.Lib.LaidTab
import Derived.Stop.Joined
import Derived.Stop.LaidErr
import Derived.Test.YtcdamcfklehedaaDoorOFnExactShelfShapex4
import Derived.Test.YtcdamcfklehedaaDoorPureFnExactShelfShape
import Derived.Test.YtcdamcfklehedaaDoorOpen
import Derived.WalkKit
import Derived.ProofKit
import Derived.OpenShut
import Derived.ShutString
import Derived.ChangeOld
import Derived.Below
import Derived.SizedLaws
namespace Go.Proofs.YtcdamcfklehedaaDoor.fnExactShelfShape
open Go.ChangeShapes Go.WideShapes Go.ChangeAt Go.RowKit
open Go.ChangeMaps (open_string shut_string)
open Go.Proofs.YtcdamcfklehedaaDoor.OFnExactShelfShape Go.Proofs.YtcdamcfklehedaaDoorW.PrintWords Go.Proofs.YtcdamcfklehedaaDoor.Base Go.Proofs.YtcdamcfklehedaaDoor.Open
set_option linter.unusedVariables false
theorem own : ownKnob Tryd.prog.godebug = none := by kernel_rfl
theorem laidOut : laidOutB Tryd.prog = true := by kernel_rfl
def G72 (x : S72) : Prop := gInt x.f0 ∧ (gL gStr) x.f1
theorem opens72 {W : World} : Opens Tryd.prog W 72 k72 G72 := opens_struct Tryd.underlying72 (by kernel_rfl) _ (fun p => ⟨p.1, p.2⟩) (fun _ => rfl) (fun n => (opensF_cons rfl (by kernel_rfl) ((opens_int Tryd.underlying3) n) (opensF_last rfl (by kernel_rfl) ((opens_slice 9 Tryd.underlying44 (by kernel_rfl) (opens_string Tryd.underlying9)) n)))) (fun _ h => h)
def G107 (x : S107) : Prop := gStr x.f0 ∧ gInt x.f1 ∧ gInt x.f2
theorem opens107 {W : World} : Opens Tryd.prog W 107 k107 G107 := opens_struct Tryd.underlying107 (by kernel_rfl) _ (fun p => ⟨p.1, p.2.1, p.2.2⟩) (fun _ => rfl) (fun n => (opensF_cons rfl (by kernel_rfl) ((opens_string Tryd.underlying9) n) (opensF_cons rfl (by kernel_rfl) ((opens_int Tryd.underlying3) n) (opensF_last rfl (by kernel_rfl) ((opens_int Tryd.underlying3) n))))) (fun _ h => h)
def G76 (x : S76) : Prop := gInt x.f0 ∧ (gL gStr) x.f1 ∧ (gL gStr) x.f2 ∧ (gL gStr) x.f3 ∧ (gL gInt) x.f4 ∧ (gL G107) x.f5
theorem opens76 {W : World} : Opens Tryd.prog W 76 k76 G76 := opens_struct Tryd.underlying76 (by kernel_rfl) _ (fun p => ⟨p.1, p.2.1, p.2.2.1, p.2.2.2.1, p.2.2.2.2.1, p.2.2.2.2.2⟩) (fun _ => rfl) (fun n => (opensF_cons rfl (by kernel_rfl) ((opens_int Tryd.underlying3) n) (opensF_cons rfl (by kernel_rfl) ((opens_slice 9 Tryd.underlying44 (by kernel_rfl) (opens_string Tryd.underlying9)) n) (opensF_cons rfl (by kernel_rfl) ((opens_slice 9 Tryd.underlying44 (by kernel_rfl) (opens_string Tryd.underlying9)) n) (opensF_cons rfl (by kernel_rfl) ((opens_slice 9 Tryd.underlying44 (by kernel_rfl) (opens_string Tryd.underlying9)) n) (opensF_cons rfl (by kernel_rfl) ((opens_slice 3 Tryd.underlying32 (by kernel_rfl) (opens_int Tryd.underlying3)) n) (opensF_last rfl (by kernel_rfl) ((opens_slice 107 Tryd.underlying74 (by kernel_rfl) opens107) n)))))))) (fun _ h => h)
def G34 (x : S34) : Prop := (gL G72) x.f0 ∧ (gL G76) x.f1 ∧ (gL gInt) x.f2
theorem opens34 {W : World} : Opens Tryd.prog W 34 k34 G34 := opens_struct Tryd.underlying34 (by kernel_rfl) _ (fun p => ⟨p.1, p.2.1, p.2.2⟩) (fun _ => rfl) (fun n => (opensF_cons rfl (by kernel_rfl) ((opens_slice 72 Tryd.underlying30 (by kernel_rfl) opens72) n) (opensF_cons rfl (by kernel_rfl) ((opens_slice 76 Tryd.underlying31 (by kernel_rfl) opens76) n) (opensF_last rfl (by kernel_rfl) ((opens_slice 3 Tryd.underlying32 (by kernel_rfl) (opens_int Tryd.underlying3)) n))))) (fun _ h => h)
set_option maxRecDepth 100000
theorem door_met (os : Os) (args : Array Value) : laidMetH Tryd.prog Rows.fnExactShelfShapeRow.laid ((World.doorLaid Tryd.prog 400 os).forCall (fun _ _ => 0) ⟨#[], args, []⟩).memory := 
  laidMetH_of_parts3 (fuel := 8) (laidMet_of_run' 8 (by kernel_rfl) (by kernel_rfl)) (by kernel_rfl) (by kernel_rfl)
theorem tab_f1 {W : World} (h : laidMetH Tryd.prog Rows.fnExactShelfShapeRow.laid W) : Lib.TabIs Tryd.prog W "strings.asciiSpace" .u8 Lib.asciiSpaceTab := by
  rw [MakeChecks.laidMetH_plain _ _ _ (by kernel_rfl)] at h
  have h2 : laidMet Tryd.prog ((Rows.fnExactShelfShapeRow.laid).drop 1) W := h.tail
  have e : (Rows.fnExactShelfShapeRow.laid).drop 1 = ("strings.asciiSpace", Lib.tabData .u8 Lib.asciiSpaceTab) :: (Rows.fnExactShelfShapeRow.laid).drop (1 + 1) := by kernel_rfl
  rw [e] at h2
  exact Lib.tabIs_of_head (g := 0) (t := 113) (e := 5) (n := 256) (by kernel_rfl) (by kernel_rfl) Tryd.underlying113 Tryd.underlying5 (by kernel_rfl) (by kernel_rfl) h2
/-- What the row's condition gives the walks: the tables stand. -/
theorem tab_of_laid {W : World} (h : laidMetH Tryd.prog Rows.fnExactShelfShapeRow.laid W) : OFnExactShelfShape.Tab W := ⟨tab_f1 h⟩
set_option maxRecDepth 100000 in
theorem lifted (os : Os) (started : os.Started) (H : Type) (enc : TypeId × Value → H) :
    ReturnsInHanded {} Tryd.checked os 3 .any (fun w args => (Rows.fnExactShelfShapeSpec.pre enc Tryd.prog Tryd.f3 [] false w args ∧ laidMetH Tryd.prog Rows.fnExactShelfShapeRow.laid w) ∧ sizedMet enc Tryd.prog Tryd.f3 (OpenSpec.ofChange Rows.fnExactShelfShapeSpec) false w args) (Rows.fnExactShelfShapeSpec.post enc Tryd.prog Tryd.f3 false true false false) := by
  refine returnsInHanded_of_change_and (C := Tryd.checked) (X := fun w _ => laidMetH Tryd.prog Rows.fnExactShelfShapeRow.laid w) (fun _ _ _ hh h => h.of_heap hh) own started (by kernel_rfl) Tryd.func3
    (ChangeSpec.witness_shaped (enc := enc) (C := Tryd.checked) (os := os) (X := fun w _ => laidMetH Tryd.prog Rows.fnExactShelfShapeRow.laid w) false (World.doorLaid Tryd.prog 400 os) #[.slice none 0 0] 8 rfl (World.shaped_of_RefB (by kernel_rfl) (by kernel_rfl)) (by kernel_rfl) (by kernel_rfl) (by kernel_rfl) (door_met os _)) ?_
  intro W base args ds gs before hval0 hW hcnd hsz0 hL _
  have hT_ := tab_of_laid hL
  have hval : ∀ (j : Nat) t v, Tryd.f3.params[j]? = some t → args[j]? = some v → Value.okWide Tryd.prog W .any base t v := hval0
  have hW' := hW
  obtain ⟨p, q, hA0, hV, rfl, hfz, hnd⟩ := hW
  have hA : DataW.TrodAll enc Tryd.prog W 0 (fun _ => true) true Tryd.f3.params.toList args.toList ds p := hA0
  rw [Tryd.params3] at hA hval
  obtain ⟨v0, vs0, d0, ds0, p0, q0, hargs, rfl, rfl, h0, r0⟩ := trodAll_cons hA
  obtain ⟨rfl, rfl, rfl⟩ := trodAll_nil r0
  obtain rfl : args = #[v0] := by cases args; simp_all
  obtain ⟨rfl, rfl⟩ := trodVars_none hV
  obtain ⟨A0, len0, c0, rfl⟩ := okWide_slice Tryd.underlying22 (hval 0 22 v0 rfl rfl)
  have k0 := h0
  have lt0 : ∀ x ∈ p0, x.block < W.heap.size := by obtain ⟨m, hm⟩ := k0; exact DataW.trod_lt m _ _ _ hm
  obtain ⟨l0, rfl, hc0, hr0, g0⟩ := Opens.arg_slice (opens_slice 34 Tryd.underlying22 (by kernel_rfl) opens34) h0
  clear hA0 hval0 hsz0
  obtain ⟨k, hk⟩ := Pure.FnExactShelfShape l0 g0
  refine (laws_FnExactShelfShape.calls (hT_ := hT_) k A0 c0 l0 true W hr0 hc0 hk).mono fun e W' ⟨he, bel⟩ => ?_
  subst he
  exact ⟨_, rfl, _, _, _, [], _, [], hW', trodAll_mk1 (shut_bool Tryd.underlying4 _), (trodAll_cons_mk (Below.trod laidOut (by kernel_rfl) (of_decide_eq_true (by kernel_rfl)) k0 bel lt0) trodAll_mk0), rfl, bel.frame _, fun h => by cases h⟩
theorem over : Rows.fnExactShelfShapeRow.holds Tryd.pinned (OpenSpec.ofChange Rows.fnExactShelfShapeSpec) :=
  OpenClaim.holds_of_wide 3 Tryd.f3 rfl rfl rfl rfl rfl rfl rfl ⟨rfl, rfl, rfl, rfl, rfl⟩ rfl rfl rfl rfl rfl (by kernel_rfl) Tryd.func3 (by kernel_rfl)
    (of_decide_eq_true (by kernel_rfl)) (by unfold Func.isWrapper; first | (rw [if_pos (by decide +kernel)]; kernel_rfl) | (rw [if_neg (by decide +kernel)]; exact ⟨rfl, rfl⟩))
    (fun os started H enc _ => lifted os started H enc)
theorem proved : Rows.FnExactShelfShapeSaid := over
#print axioms proved
/-- THE TIED CARD: the row, its listed variables tied to the program's text. -/
theorem carded : Rows.FnExactShelfShapeCardSaid :=
  Claim7.holds_tied_plain_at .later [] [.listed, .data] true (true, "7df8a25c291a9901e7ac90c200f900804865faa11b12c21aeba4e399df6adb7b") false
    proved (fun _ h => by cases h) (by kernel_rfl) (fun _ h => by cases h) fnExactShelfShape_row_tie rfl ⟨rfl, rfl⟩ (by kernel_rfl) rfl
    (fun f fn hf hfn => by
      obtain rfl : f = 3 := Option.some.inj ((show Tryd.prog.funcNamed Rows.fnExactShelfShapeRow.func = some 3 by kernel_rfl).symm.trans hf) |>.symm
      obtain rfl : fn = Tryd.f3 := (Option.some.inj (Tryd.func3.symm.trans hfn)).symm
      exact ⟨by kernel_rfl, fun j t ht => by
        rw [Tryd.params3] at ht
        have hm : t ∈ [22] := by simpa using Array.mem_of_getElem? ht
        have hall : ([22].all fun u => !Tryd.prog.wantsStandIn u) = true := by kernel_rfl
        exact (show Tryd.prog.wantsStandIn t = false by simpa using List.all_eq_true.1 hall t hm)⟩)
    (by kernel_rfl)

end Go.Proofs.YtcdamcfklehedaaDoor.fnExactShelfShape
namespace Go.Proofs.YtcdamcfklehedaaDoor
theorem fnExactShelfShape_holds : Rows.FnExactShelfShapeCardSaid := fnExactShelfShape.carded
end Go.Proofs.YtcdamcfklehedaaDoor
