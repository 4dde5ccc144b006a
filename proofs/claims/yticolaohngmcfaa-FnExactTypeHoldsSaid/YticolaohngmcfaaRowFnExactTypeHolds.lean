/- The statement FnExactTypeHoldsSaid: for every input the law returns true and leaves its arguments as they were. No condition of our own. -/
import Derived.Test.YticolaohngmcfaaRows
import Derived.Test.YticolaohngmcfaaOFnExactTypeHoldsx9
import Derived.Test.YticolaohngmcfaaPureFnExactTypeHolds
import Derived.Test.YticolaohngmcfaaOpen
import Derived.WalkKit
import Derived.ProofKit
import Derived.OpenShut
import Derived.ShutString
import Derived.ChangeOld
import Derived.Below
import Derived.SizedLaws
namespace Go.Proofs.Yticolaohngmcfaa.fnExactTypeHolds
open Go.ChangeShapes Go.WideShapes Go.ChangeAt Go.RowKit
open Go.ChangeMaps (open_string shut_string)
open Go.Proofs.Yticolaohngmcfaa.OFnExactTypeHolds Go.Proofs.YticolaohngmcfaaW.PrintWords Go.Proofs.Yticolaohngmcfaa.Base Go.Proofs.Yticolaohngmcfaa.Open
set_option linter.unusedVariables false
theorem own : ownKnob Try.prog.godebug = none := by kernel_rfl
theorem laidOut : laidOutB Try.prog = true := by kernel_rfl
def G76 (x : S76) : Prop := gInt x.f0 ∧ (gL gStr) x.f1
theorem opens76 {W : World} : Opens Try.prog W 76 k76 G76 := opens_struct Try.underlying76 (by kernel_rfl) _ (fun p => ⟨p.1, p.2⟩) (fun _ => rfl) (fun n => (opensF_cons rfl (by kernel_rfl) ((opens_int Try.underlying3) n) (opensF_last rfl (by kernel_rfl) ((opens_slice 9 Try.underlying51 (by kernel_rfl) (opens_string Try.underlying9)) n)))) (fun _ h => h)
set_option maxRecDepth 100000 in
theorem lifted (os : Os) (started : os.Started) (H : Type) (enc : TypeId × Value → H) :
    ReturnsInHanded {} Try.checked os 14 .any (Rows.fnExactTypeHoldsSpec.pre6 enc Try.prog Try.f14 Rows.fnExactTypeHoldsRow.domain false) (Rows.fnExactTypeHoldsSpec.post enc Try.prog Try.f14 false true false false) := by
  refine returnsInHanded_of_change_sized (C := Try.checked) own started (by kernel_rfl) Try.func14
    (ChangeSpec.witness6 (enc := enc) (C := Try.checked) false ⟨#[], #[.slice none 0 0, .string ByteArray.empty, .string ByteArray.empty], []⟩ 8 (by kernel_rfl) (by kernel_rfl) (by kernel_rfl) (by kernel_rfl)) ?_
  intro W base args ds gs before hval0 hW hcnd hsz0 _
  have hval : ∀ (j : Nat) t v, Try.f14.params[j]? = some t → args[j]? = some v → Value.okWide Try.prog W .any base t v := hval0
  have hW' := hW
  obtain ⟨p, q, hA0, hV, rfl, hfz, hnd⟩ := hW
  have hA : DataW.TrodAll enc Try.prog W 0 (fun _ => true) true Try.f14.params.toList args.toList ds p := hA0
  rw [Try.params14] at hA hval
  obtain ⟨v0, vs0, d0, ds0, p0, q0, hargs, rfl, rfl, h0, r0⟩ := trodAll_cons hA
  obtain ⟨v1, vs1, d1, ds1, p1, q1, rfl, rfl, rfl, h1, r1⟩ := trodAll_cons r0
  obtain ⟨v2, vs2, d2, ds2, p2, q2, rfl, rfl, rfl, h2, r2⟩ := trodAll_cons r1
  obtain ⟨rfl, rfl, rfl⟩ := trodAll_nil r2
  obtain rfl : args = #[v0, v1, v2] := by cases args; simp_all
  obtain ⟨rfl, rfl⟩ := trodVars_none hV
  obtain ⟨A0, len0, c0, rfl⟩ := okWide_slice Try.underlying29 (hval 0 29 v0 rfl rfl)
  have k0 := h0
  have lt0 : ∀ x ∈ p0, x.block < W.heap.size := by obtain ⟨m, hm⟩ := k0; exact DataW.trod_lt m _ _ _ hm
  obtain ⟨l0, rfl, hc0, hr0, g0⟩ := Opens.arg_slice (opens_slice 57 Try.underlying29 (by kernel_rfl) (opens_slice 76 Try.underlying57 (by kernel_rfl) opens76)) h0
  obtain ⟨a1, rfl, rfl, rfl, y1⟩ := open_string Try.underlying9 (hval 1 9 v1 rfl rfl) h1
  obtain ⟨a2, rfl, rfl, rfl, y2⟩ := open_string Try.underlying9 (hval 2 9 v2 rfl rfl) h2
  clear hA0 hval0 hsz0
  obtain ⟨k, hk⟩ := Pure.FnExactTypeHolds l0 a1 a2 g0 (gStr_le y1) (gStr_le y2)
  refine (laws_FnExactTypeHolds.calls k A0 c0 l0 a1 a2 true W hr0 hc0 hk).mono fun e W' ⟨he, bel⟩ => ?_
  subst he
  exact ⟨_, rfl, _, _, _, [], _, [], hW', trodAll_mk1 (shut_bool Try.underlying4 _), (trodAll_cons_mk (Below.trod laidOut (by kernel_rfl) (of_decide_eq_true (by kernel_rfl)) k0 bel lt0) (trodAll_cons_mk (shut_string Try.underlying9 y1) (trodAll_cons_mk (shut_string Try.underlying9 y2) trodAll_mk0))), rfl, bel.frame _, fun h => by cases h⟩
theorem over : Rows.fnExactTypeHoldsRow.holds Try.pinned (OpenSpec.ofChange Rows.fnExactTypeHoldsSpec) :=
  OpenClaim.holds_of_wide 14 Try.f14 rfl rfl rfl rfl rfl rfl rfl ⟨rfl, rfl, rfl, rfl, rfl⟩ rfl rfl rfl rfl rfl (by kernel_rfl) Try.func14 (by kernel_rfl)
    (of_decide_eq_true (by kernel_rfl)) (by unfold Func.isWrapper; first | (rw [if_pos (by decide +kernel)]; kernel_rfl) | (rw [if_neg (by decide +kernel)]; exact ⟨rfl, rfl⟩))
    (fun os started H enc _ => lifted os started H enc)
theorem proved : Rows.FnExactTypeHoldsSaid := over
#print axioms proved
end Go.Proofs.Yticolaohngmcfaa.fnExactTypeHolds
namespace Go.Proofs.Yticolaohngmcfaa
theorem fnExactTypeHolds_holds : Rows.FnExactTypeHoldsSaid := fnExactTypeHolds.proved
end Go.Proofs.Yticolaohngmcfaa
