/- The statement FnExactShelfKindsSaid: for every input the law returns true and leaves its arguments as they were. No condition of our own. -/
import Derived.Test.YtcdamcfklehedaaRows
import Derived.Test.YtcdamcfklehedaaHandFnExactShelfKinds
import Derived.Test.YtcdamcfklehedaaPureFnExactShelfKinds
import Derived.Test.YtcdamcfklehedaaOpen
import Derived.WalkKit
import Derived.ProofKit
import Derived.OpenShut
import Derived.ShutString
import Derived.ChangeOld
import Derived.Below
import Derived.SizedLaws
namespace Go.Proofs.Ytcdamcfklehedaa.fnExactShelfKinds
open Go.ChangeShapes Go.WideShapes Go.ChangeAt Go.RowKit
open Go.ChangeMaps (open_string shut_string)
open Go.Proofs.Ytcdamcfklehedaa.OFnExactShelfKinds Go.Proofs.YtcdamcfklehedaaW.PrintWords Go.Proofs.Ytcdamcfklehedaa.Base Go.Proofs.Ytcdamcfklehedaa.Open
set_option linter.unusedVariables false
theorem own : ownKnob Try.prog.godebug = none := by kernel_rfl
theorem laidOut : laidOutB Try.prog = true := by kernel_rfl
def G87 (x : S87) : Prop := gInt x.f0 ∧ (gL gStr) x.f1
theorem opens87 {W : World} : Opens Try.prog W 87 k87 G87 := opens_struct Try.underlying87 (by kernel_rfl) _ (fun p => ⟨p.1, p.2⟩) (fun _ => rfl) (fun n => (opensF_cons rfl (by kernel_rfl) ((opens_int Try.underlying3) n) (opensF_last rfl (by kernel_rfl) ((opens_slice 9 Try.underlying35 (by kernel_rfl) (opens_string Try.underlying9)) n)))) (fun _ h => h)
def G98 (x : S98) : Prop := gStr x.f0 ∧ gInt x.f1 ∧ gInt x.f2
theorem opens98 {W : World} : Opens Try.prog W 98 k98 G98 := opens_struct Try.underlying98 (by kernel_rfl) _ (fun p => ⟨p.1, p.2.1, p.2.2⟩) (fun _ => rfl) (fun n => (opensF_cons rfl (by kernel_rfl) ((opens_string Try.underlying9) n) (opensF_cons rfl (by kernel_rfl) ((opens_int Try.underlying3) n) (opensF_last rfl (by kernel_rfl) ((opens_int Try.underlying3) n))))) (fun _ h => h)
def G91 (x : S91) : Prop := gInt x.f0 ∧ (gL gStr) x.f1 ∧ (gL gStr) x.f2 ∧ (gL gStr) x.f3 ∧ (gL gInt) x.f4 ∧ (gL G98) x.f5
theorem opens91 {W : World} : Opens Try.prog W 91 k91 G91 := opens_struct Try.underlying91 (by kernel_rfl) _ (fun p => ⟨p.1, p.2.1, p.2.2.1, p.2.2.2.1, p.2.2.2.2.1, p.2.2.2.2.2⟩) (fun _ => rfl) (fun n => (opensF_cons rfl (by kernel_rfl) ((opens_int Try.underlying3) n) (opensF_cons rfl (by kernel_rfl) ((opens_slice 9 Try.underlying35 (by kernel_rfl) (opens_string Try.underlying9)) n) (opensF_cons rfl (by kernel_rfl) ((opens_slice 9 Try.underlying35 (by kernel_rfl) (opens_string Try.underlying9)) n) (opensF_cons rfl (by kernel_rfl) ((opens_slice 9 Try.underlying35 (by kernel_rfl) (opens_string Try.underlying9)) n) (opensF_cons rfl (by kernel_rfl) ((opens_slice 3 Try.underlying36 (by kernel_rfl) (opens_int Try.underlying3)) n) (opensF_last rfl (by kernel_rfl) ((opens_slice 98 Try.underlying89 (by kernel_rfl) opens98) n)))))))) (fun _ h => h)
def G49 (x : S49) : Prop := (gL G87) x.f0 ∧ (gL G91) x.f1 ∧ (gL gInt) x.f2
theorem opens49 {W : World} : Opens Try.prog W 49 k49 G49 := opens_struct Try.underlying49 (by kernel_rfl) _ (fun p => ⟨p.1, p.2.1, p.2.2⟩) (fun _ => rfl) (fun n => (opensF_cons rfl (by kernel_rfl) ((opens_slice 87 Try.underlying46 (by kernel_rfl) opens87) n) (opensF_cons rfl (by kernel_rfl) ((opens_slice 91 Try.underlying47 (by kernel_rfl) opens91) n) (opensF_last rfl (by kernel_rfl) ((opens_slice 3 Try.underlying36 (by kernel_rfl) (opens_int Try.underlying3)) n))))) (fun _ h => h)
set_option maxRecDepth 100000 in
theorem lifted (os : Os) (started : os.Started) (H : Type) (enc : TypeId × Value → H) :
    ReturnsInHanded {} Try.checked os 4 .any (Rows.fnExactShelfKindsSpec.pre6 enc Try.prog Try.f4 Rows.fnExactShelfKindsRow.domain false) (Rows.fnExactShelfKindsSpec.post enc Try.prog Try.f4 false true false false) := by
  refine returnsInHanded_of_change_sized (C := Try.checked) own started (by kernel_rfl) Try.func4
    (ChangeSpec.witness6 (enc := enc) (C := Try.checked) false ⟨#[], #[.slice none 0 0], []⟩ 8 (by kernel_rfl) (by kernel_rfl) (by kernel_rfl) (by kernel_rfl)) ?_
  intro W base args ds gs before hval0 hW hcnd hsz0 _
  have hval : ∀ (j : Nat) t v, Try.f4.params[j]? = some t → args[j]? = some v → Value.okWide Try.prog W .any base t v := hval0
  have hW' := hW
  obtain ⟨p, q, hA0, hV, rfl, hfz, hnd⟩ := hW
  have hA : DataW.TrodAll enc Try.prog W 0 (fun _ => true) true Try.f4.params.toList args.toList ds p := hA0
  rw [Try.params4] at hA hval
  obtain ⟨v0, vs0, d0, ds0, p0, q0, hargs, rfl, rfl, h0, r0⟩ := trodAll_cons hA
  obtain ⟨rfl, rfl, rfl⟩ := trodAll_nil r0
  obtain rfl : args = #[v0] := by cases args; simp_all
  obtain ⟨rfl, rfl⟩ := trodVars_none hV
  obtain ⟨A0, len0, c0, rfl⟩ := okWide_slice Try.underlying22 (hval 0 22 v0 rfl rfl)
  have k0 := h0
  have lt0 : ∀ x ∈ p0, x.block < W.heap.size := by obtain ⟨m, hm⟩ := k0; exact DataW.trod_lt m _ _ _ hm
  obtain ⟨l0, rfl, hc0, hr0, g0⟩ := Opens.arg_slice (opens_slice 49 Try.underlying22 (by kernel_rfl) opens49) h0
  clear hA0 hval0 hsz0
  refine (Hand.fin A0 c0 l0 W hr0 hc0 g0).mono fun e W' ⟨he, bel⟩ => ?_
  subst he
  exact ⟨_, rfl, _, _, _, [], _, [], hW', trodAll_mk1 (shut_bool Try.underlying4 _), (trodAll_cons_mk (Below.trod laidOut (by kernel_rfl) (of_decide_eq_true (by kernel_rfl)) k0 bel lt0) trodAll_mk0), rfl, bel.frame _, fun h => by cases h⟩
theorem over : Rows.fnExactShelfKindsRow.holds Try.pinned (OpenSpec.ofChange Rows.fnExactShelfKindsSpec) :=
  OpenClaim.holds_of_wide 4 Try.f4 rfl rfl rfl rfl rfl rfl rfl ⟨rfl, rfl, rfl, rfl, rfl⟩ rfl rfl rfl rfl rfl (by kernel_rfl) Try.func4 (by kernel_rfl)
    (of_decide_eq_true (by kernel_rfl)) (by unfold Func.isWrapper; first | (rw [if_pos (by decide +kernel)]; kernel_rfl) | (rw [if_neg (by decide +kernel)]; exact ⟨rfl, rfl⟩))
    (fun os started H enc _ => lifted os started H enc)
theorem proved : Rows.FnExactShelfKindsSaid := over
#print axioms proved
end Go.Proofs.Ytcdamcfklehedaa.fnExactShelfKinds
namespace Go.Proofs.Ytcdamcfklehedaa
theorem fnExactShelfKinds_holds : Rows.FnExactShelfKindsSaid := fnExactShelfKinds.proved
end Go.Proofs.Ytcdamcfklehedaa
