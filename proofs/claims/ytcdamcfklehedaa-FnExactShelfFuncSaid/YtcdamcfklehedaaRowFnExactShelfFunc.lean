/- The statement FnExactShelfFuncSaid: for every input the law returns true and leaves its arguments as they were. No condition of our own. -/
import Derived.Test.YtcdamcfklehedaaRows
import Derived.Test.YtcdamcfklehedaaHandFnExactShelfFunc
import Derived.Test.YtcdamcfklehedaaPureFnExactShelfFunc
import Derived.Test.YtcdamcfklehedaaOpen
import Derived.WalkKit
import Derived.ProofKit
import Derived.OpenShut
import Derived.ShutString
import Derived.ChangeOld
import Derived.Below
import Derived.SizedLaws
namespace Go.Proofs.Ytcdamcfklehedaa.fnExactShelfFunc
open Go.ChangeShapes Go.WideShapes Go.ChangeAt Go.RowKit
open Go.ChangeMaps (open_string shut_string)
open Go.Proofs.Ytcdamcfklehedaa.OFnExactShelfFunc Go.Proofs.YtcdamcfklehedaaW.PrintWords Go.Proofs.Ytcdamcfklehedaa.Base Go.Proofs.Ytcdamcfklehedaa.Open
set_option linter.unusedVariables false
theorem own : ownKnob Try.prog.godebug = none := by kernel_rfl
theorem laidOut : laidOutB Try.prog = true := by kernel_rfl
def G87 (x : S87) : Prop := gInt x.f0 ∧ (gL gStr) x.f1
theorem opens87 {W : World} : Opens Try.prog W 87 k87 G87 := opens_struct Try.underlying87 (by kernel_rfl) _ (fun p => ⟨p.1, p.2⟩) (fun _ => rfl) (fun n => (opensF_cons rfl (by kernel_rfl) ((opens_int Try.underlying3) n) (opensF_last rfl (by kernel_rfl) ((opens_slice 9 Try.underlying35 (by kernel_rfl) (opens_string Try.underlying9)) n)))) (fun _ h => h)
def G98 (x : S98) : Prop := gStr x.f0 ∧ gInt x.f1 ∧ gInt x.f2
theorem opens98 {W : World} : Opens Try.prog W 98 k98 G98 := opens_struct Try.underlying98 (by kernel_rfl) _ (fun p => ⟨p.1, p.2.1, p.2.2⟩) (fun _ => rfl) (fun n => (opensF_cons rfl (by kernel_rfl) ((opens_string Try.underlying9) n) (opensF_cons rfl (by kernel_rfl) ((opens_int Try.underlying3) n) (opensF_last rfl (by kernel_rfl) ((opens_int Try.underlying3) n))))) (fun _ h => h)
def G91 (x : S91) : Prop := gInt x.f0 ∧ (gL gStr) x.f1 ∧ (gL gStr) x.f2 ∧ (gL gStr) x.f3 ∧ (gL gInt) x.f4 ∧ (gL G98) x.f5
theorem opens91 {W : World} : Opens Try.prog W 91 k91 G91 := opens_struct Try.underlying91 (by kernel_rfl) _ (fun p => ⟨p.1, p.2.1, p.2.2.1, p.2.2.2.1, p.2.2.2.2.1, p.2.2.2.2.2⟩) (fun _ => rfl) (fun n => (opensF_cons rfl (by kernel_rfl) ((opens_int Try.underlying3) n) (opensF_cons rfl (by kernel_rfl) ((opens_slice 9 Try.underlying35 (by kernel_rfl) (opens_string Try.underlying9)) n) (opensF_cons rfl (by kernel_rfl) ((opens_slice 9 Try.underlying35 (by kernel_rfl) (opens_string Try.underlying9)) n) (opensF_cons rfl (by kernel_rfl) ((opens_slice 9 Try.underlying35 (by kernel_rfl) (opens_string Try.underlying9)) n) (opensF_cons rfl (by kernel_rfl) ((opens_slice 3 Try.underlying36 (by kernel_rfl) (opens_int Try.underlying3)) n) (opensF_last rfl (by kernel_rfl) ((opens_slice 98 Try.underlying89 (by kernel_rfl) opens98) n)))))))) (fun _ h => h)
def G49 (x : S49) : Prop := (gL G87) x.f0 ∧ (gL G91) x.f1 ∧ (gL gInt) x.f2
theorem opens49 {W : World} : Opens Try.prog W 49 k49 G49 := opens_struct Try.underlying49 (by kernel_rfl) _ (fun p => ⟨p.1, p.2.1, p.2.2⟩) (fun _ => rfl) (fun n => (opensF_cons rfl (by kernel_rfl) ((opens_slice 87 Try.underlying46 (by kernel_rfl) opens87) n) (opensF_cons rfl (by kernel_rfl) ((opens_slice 91 Try.underlying47 (by kernel_rfl) opens91) n) (opensF_last rfl (by kernel_rfl) ((opens_slice 3 Try.underlying36 (by kernel_rfl) (opens_int Try.underlying3)) n))))) (fun _ h => h)
set_option maxRecDepth 100000 in
theorem lifted (os : Os) (started : os.Started) (H : Type) (enc : TypeId × Value → H) :
    ReturnsInHanded {} Try.checked os 5 .any (Rows.fnExactShelfFuncSpec.pre6 enc Try.prog Try.f5 Rows.fnExactShelfFuncRow.domain false) (Rows.fnExactShelfFuncSpec.post enc Try.prog Try.f5 false true false false) := by
  refine returnsInHanded_of_change_sized (C := Try.checked) own started (by kernel_rfl) Try.func5
    (ChangeSpec.witness6 (enc := enc) (C := Try.checked) false ⟨#[], #[.slice none 0 0, .int .i64 0, .int .i64 0], []⟩ 8 (by kernel_rfl) (by kernel_rfl) (by kernel_rfl) (by kernel_rfl)) ?_
  intro W base args ds gs before hval0 hW hcnd hsz0 _
  have hval : ∀ (j : Nat) t v, Try.f5.params[j]? = some t → args[j]? = some v → Value.okWide Try.prog W .any base t v := hval0
  have hW' := hW
  obtain ⟨p, q, hA0, hV, rfl, hfz, hnd⟩ := hW
  have hA : DataW.TrodAll enc Try.prog W 0 (fun _ => true) true Try.f5.params.toList args.toList ds p := hA0
  rw [Try.params5] at hA hval
  obtain ⟨v0, vs0, d0, ds0, p0, q0, hargs, rfl, rfl, h0, r0⟩ := trodAll_cons hA
  obtain ⟨v1, vs1, d1, ds1, p1, q1, rfl, rfl, rfl, h1, r1⟩ := trodAll_cons r0
  obtain ⟨v2, vs2, d2, ds2, p2, q2, rfl, rfl, rfl, h2, r2⟩ := trodAll_cons r1
  obtain ⟨rfl, rfl, rfl⟩ := trodAll_nil r2
  obtain rfl : args = #[v0, v1, v2] := by cases args; simp_all
  obtain ⟨rfl, rfl⟩ := trodVars_none hV
  obtain ⟨A0, len0, c0, rfl⟩ := okWide_slice Try.underlying22 (hval 0 22 v0 rfl rfl)
  have k0 := h0
  have lt0 : ∀ x ∈ p0, x.block < W.heap.size := by obtain ⟨m, hm⟩ := k0; exact DataW.trod_lt m _ _ _ hm
  obtain ⟨l0, rfl, hc0, hr0, g0⟩ := Opens.arg_slice (opens_slice 49 Try.underlying22 (by kernel_rfl) opens49) h0
  obtain ⟨a1, rfl, rfl, rfl, w1⟩ := open_int Try.underlying3 (hval 1 3 v1 rfl rfl) h1
  obtain ⟨a2, rfl, rfl, rfl, w2⟩ := open_int Try.underlying3 (hval 2 3 v2 rfl rfl) h2
  clear hA0 hval0 hsz0
  refine (Hand.fin A0 c0 l0 a1 a2 W hr0 hc0 g0 (gInt_wf w1) (gInt_wf w2)).mono fun e W' ⟨he, bel⟩ => ?_
  subst he
  exact ⟨_, rfl, _, _, _, [], _, [], hW', trodAll_mk1 (shut_bool Try.underlying4 _), (trodAll_cons_mk (Below.trod laidOut (by kernel_rfl) (of_decide_eq_true (by kernel_rfl)) k0 bel lt0) (trodAll_cons_mk (shut_int Try.underlying3 w1) (trodAll_cons_mk (shut_int Try.underlying3 w2) trodAll_mk0))), rfl, bel.frame _, fun h => by cases h⟩
theorem over : Rows.fnExactShelfFuncRow.holds Try.pinned (OpenSpec.ofChange Rows.fnExactShelfFuncSpec) :=
  OpenClaim.holds_of_wide 5 Try.f5 rfl rfl rfl rfl rfl rfl rfl ⟨rfl, rfl, rfl, rfl, rfl⟩ rfl rfl rfl rfl rfl (by kernel_rfl) Try.func5 (by kernel_rfl)
    (of_decide_eq_true (by kernel_rfl)) (by unfold Func.isWrapper; first | (rw [if_pos (by decide +kernel)]; kernel_rfl) | (rw [if_neg (by decide +kernel)]; exact ⟨rfl, rfl⟩))
    (fun os started H enc _ => lifted os started H enc)
theorem proved : Rows.FnExactShelfFuncSaid := over
#print axioms proved
end Go.Proofs.Ytcdamcfklehedaa.fnExactShelfFunc
namespace Go.Proofs.Ytcdamcfklehedaa
theorem fnExactShelfFunc_holds : Rows.FnExactShelfFuncSaid := fnExactShelfFunc.proved
end Go.Proofs.Ytcdamcfklehedaa
