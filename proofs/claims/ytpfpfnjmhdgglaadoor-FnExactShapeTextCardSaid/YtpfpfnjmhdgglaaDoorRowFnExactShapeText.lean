/- The statement FnExactShapeTextSaid: for every input the law returns true and leaves its arguments as they were. No condition of our own. -/
import Derived.Test.YtpfpfnjmhdgglaaDoorRows
import Derived.Test.YtpfpfnjmhdgglaaDoorCards
import Derived.Test.YtpfpfnjmhdgglaaDoorTie
import Derived.SevenTiedAt
import Derived.LaidMore
import Derived.LaidLaws
import Derived.LaidHandle
import Derived.Lay
import Derived.HandedShaped
import Derived.MakeChecks
import Derived.JoinedOf
import Derived.Lib.LaidTab
import Derived.Stop.Joined
import Derived.Stop.LaidErr
import Derived.Test.YtpfpfnjmhdgglaaDoorOFnExactShapeTextx4
import Derived.Test.YtpfpfnjmhdgglaaDoorPureFnExactShapeText
import Derived.Test.YtpfpfnjmhdgglaaDoorOpen
import Derived.WalkKit
import Derived.ProofKit
import Derived.OpenShut
import Derived.ShutString
import Derived.ChangeOld
import Derived.Below
import Derived.SizedLaws
namespace Go.Proofs.YtpfpfnjmhdgglaaDoor.fnExactShapeText
open Go.ChangeShapes Go.WideShapes Go.ChangeAt Go.RowKit
open Go.ChangeMaps (open_string shut_string)
open Go.Proofs.YtpfpfnjmhdgglaaDoor.OFnExactShapeText Go.Proofs.YtpfpfnjmhdgglaaDoorW.PrintWords Go.Proofs.YtpfpfnjmhdgglaaDoor.Base Go.Proofs.YtpfpfnjmhdgglaaDoor.Open
set_option linter.unusedVariables false
theorem own : ownKnob Tryd.prog.godebug = none := by kernel_rfl
theorem laidOut : laidOutB Tryd.prog = true := by kernel_rfl
def G44 (x : S44) : Prop := gStr x.f0 ∧ (gL gInt) x.f1
theorem opens44 {W : World} : Opens Tryd.prog W 44 k44 G44 := opens_struct Tryd.underlying44 (by kernel_rfl) _ (fun p => ⟨p.1, p.2⟩) (fun _ => rfl) (fun n => (opensF_cons rfl (by kernel_rfl) ((opens_string Tryd.underlying9) n) (opensF_last rfl (by kernel_rfl) ((opens_slice 3 Tryd.underlying37 (by kernel_rfl) (opens_int Tryd.underlying3)) n)))) (fun _ h => h)
set_option maxRecDepth 100000
theorem door_met (os : Os) (args : Array Value) : laidMetH Tryd.prog Rows.fnExactShapeTextRow.laid ((World.doorLaid Tryd.prog 400 os).forCall (fun _ _ => 0) ⟨#[], args, []⟩).memory := 
  laidMetH_of_parts3 (fuel := 8) (laidMet_of_run' 8 (by kernel_rfl) (by kernel_rfl)) (by kernel_rfl) (by kernel_rfl)
theorem tab_f2 {W : World} (h : laidMetH Tryd.prog Rows.fnExactShapeTextRow.laid W) : Lib.TabIs Tryd.prog W "internal/strconv.uint64pow10" .u64 Lib.pow10Tab := by
  rw [MakeChecks.laidMetH_plain _ _ _ (by kernel_rfl)] at h
  have h2 : laidMet Tryd.prog ((Rows.fnExactShapeTextRow.laid).drop 2) W := h.tail.tail
  have e : (Rows.fnExactShapeTextRow.laid).drop 2 = ("internal/strconv.uint64pow10", Lib.tabData .u64 Lib.pow10Tab) :: (Rows.fnExactShapeTextRow.laid).drop (2 + 1) := by kernel_rfl
  rw [e] at h2
  exact Lib.tabIs_of_head (g := 1) (t := 73) (e := 66) (n := 20) (by kernel_rfl) (by kernel_rfl) Tryd.underlying73 Tryd.underlying66 (by kernel_rfl) (by kernel_rfl) h2
/-- What the row's condition gives the walks: the tables stand. -/
theorem tab_of_laid {W : World} (h : laidMetH Tryd.prog Rows.fnExactShapeTextRow.laid W) : OFnExactShapeText.Tab W := ⟨tab_f2 h⟩
set_option maxRecDepth 100000 in
theorem lifted (os : Os) (started : os.Started) (H : Type) (enc : TypeId × Value → H) :
    ReturnsInHanded {} Tryd.checked os 3 .any (fun w args => (Rows.fnExactShapeTextSpec.pre enc Tryd.prog Tryd.f3 [] false w args ∧ laidMetH Tryd.prog Rows.fnExactShapeTextRow.laid w) ∧ sizedMet enc Tryd.prog Tryd.f3 (OpenSpec.ofChange Rows.fnExactShapeTextSpec) false w args) (Rows.fnExactShapeTextSpec.post enc Tryd.prog Tryd.f3 false true false false) := by
  refine returnsInHanded_of_change_and (C := Tryd.checked) (X := fun w _ => laidMetH Tryd.prog Rows.fnExactShapeTextRow.laid w) (fun _ _ _ hh h => h.of_heap hh) own started (by kernel_rfl) Tryd.func3
    (ChangeSpec.witness_shaped (enc := enc) (C := Tryd.checked) (os := os) (X := fun w _ => laidMetH Tryd.prog Rows.fnExactShapeTextRow.laid w) false (World.doorLaid Tryd.prog 400 os) #[.agg #[.slice none 0 0, .slice none 0 0]] 8 rfl (World.shaped_of_RefB (by kernel_rfl) (by kernel_rfl)) (by kernel_rfl) (by kernel_rfl) (by kernel_rfl) (door_met os _)) ?_
  intro W base args ds gs before hval0 hW hcnd hsz0 hL _
  have hT_ := tab_of_laid hL
  have hval : ∀ (j : Nat) t v, Tryd.f3.params[j]? = some t → args[j]? = some v → Value.okWide Tryd.prog W .any base t v := hval0
  have hW' := hW
  obtain ⟨p, q, hA0, hV, rfl, hfz, hnd⟩ := hW
  have hA : DataW.TrodAll enc Tryd.prog W 0 (fun _ => true) true Tryd.f3.params.toList args.toList ds p := hA0
  rw [Tryd.params3] at hA hval
  obtain ⟨v0, vs0, d0, ds0, p0, q0, hargs, rfl, rfl, h0, r0⟩ := trodAll_cons hA
  obtain ⟨rfl, rfl, rfl⟩ := trodAll_nil r0
  obtain rfl : args = #[v0] := by cases args; simp_all
  obtain ⟨rfl, rfl⟩ := trodVars_none hV
  obtain ⟨cs0, rfl, hsz0⟩ := okWide_struct Tryd.underlying24 (hval 0 24 v0 rfl rfl)
  have k0 := h0
  have lt0 : ∀ x ∈ p0, x.block < W.heap.size := by obtain ⟨m, hm⟩ := k0; exact DataW.trod_lt m _ _ _ hm
  obtain ⟨⟨l0_0, l0_1⟩, hK0, g0⟩ := Opens.arg_struct (opens_struct (β := _) Tryd.underlying24 (by kernel_rfl) (fun x => x) (fun x => x) (fun _ => rfl) (fun n => (opensF_cons rfl (by kernel_rfl) ((opens_slice 44 Tryd.underlying22 (by kernel_rfl) opens44) n) (opensF_last rfl (by kernel_rfl) ((opens_slice 44 Tryd.underlying22 (by kernel_rfl) opens44) n)))) (fun _ h => h)) h0
  obtain ⟨_, _, e0, ⟨A0_0, c0_0, rfl, hc0_0, hr0_0⟩, ⟨A0_1, c0_1, rfl, hc0_1, hr0_1⟩⟩ := hK0
  obtain rfl : cs0 = #[.slice A0_0 l0_0.length c0_0, .slice A0_1 l0_1.length c0_1] := by
    cases cs0
    simpa using e0
  clear hA0 hval0 hsz0
  obtain ⟨k, hk⟩ := Pure.FnExactShapeText l0_0 l0_1 g0
  refine (laws_FnExactShapeText.calls (hT_ := hT_) k A0_0 c0_0 l0_0 A0_1 c0_1 l0_1 true W hr0_0 hc0_0 hr0_1 hc0_1 hk).mono fun e W' ⟨he, bel⟩ => ?_
  subst he
  exact ⟨_, rfl, _, _, _, [], _, [], hW', trodAll_mk1 (shut_bool Tryd.underlying4 _), (trodAll_cons_mk (Below.trod laidOut (by kernel_rfl) (of_decide_eq_true (by kernel_rfl)) k0 bel lt0) trodAll_mk0), rfl, bel.frame _, fun h => by cases h⟩
theorem over : Rows.fnExactShapeTextRow.holds Tryd.pinned (OpenSpec.ofChange Rows.fnExactShapeTextSpec) :=
  OpenClaim.holds_of_wide 3 Tryd.f3 rfl rfl rfl rfl rfl rfl rfl ⟨rfl, rfl, rfl, rfl, rfl⟩ rfl rfl rfl rfl rfl (by kernel_rfl) Tryd.func3 (by kernel_rfl)
    (of_decide_eq_true (by kernel_rfl)) (by unfold Func.isWrapper; first | (rw [if_pos (by decide +kernel)]; kernel_rfl) | (rw [if_neg (by decide +kernel)]; exact ⟨rfl, rfl⟩))
    (fun os started H enc _ => lifted os started H enc)
theorem proved : Rows.FnExactShapeTextSaid := over
#print axioms proved
/-- THE TIED CARD: the row, its listed variables tied to the program's text. -/
theorem carded : Rows.FnExactShapeTextCardSaid :=
  Claim7.holds_tied_plain_at .later [] [.data, .data, .data] true (true, "c38668d281883b9fa93347ef79e517d0156b2749a5ad3482f807cb5668e18501") false
    proved (fun _ h => by cases h) (by kernel_rfl) (fun _ h => by cases h) fnExactShapeText_row_tie rfl ⟨rfl, rfl⟩ (by kernel_rfl) rfl
    (fun f fn hf hfn => by
      obtain rfl : f = 3 := Option.some.inj ((show Tryd.prog.funcNamed Rows.fnExactShapeTextRow.func = some 3 by kernel_rfl).symm.trans hf) |>.symm
      obtain rfl : fn = Tryd.f3 := (Option.some.inj (Tryd.func3.symm.trans hfn)).symm
      exact ⟨by kernel_rfl, fun j t ht => by
        rw [Tryd.params3] at ht
        have hm : t ∈ [24] := by simpa using Array.mem_of_getElem? ht
        have hall : ([24].all fun u => !Tryd.prog.wantsStandIn u) = true := by kernel_rfl
        exact (show Tryd.prog.wantsStandIn t = false by simpa using List.all_eq_true.1 hall t hm)⟩)
    (by kernel_rfl)

end Go.Proofs.YtpfpfnjmhdgglaaDoor.fnExactShapeText
namespace Go.Proofs.YtpfpfnjmhdgglaaDoor
theorem fnExactShapeText_holds : Rows.FnExactShapeTextCardSaid := fnExactShapeText.carded
end Go.Proofs.YtpfpfnjmhdgglaaDoor
