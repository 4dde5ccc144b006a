/- The statement FnExactShapeSameSaid: for every input the law returns true and leaves its arguments as they were. No condition of our own. -/
import Derived.Test.YtkdkmpbdpniccaaRows
import Derived.Test.YtkdkmpbdpniccaaOFnExactShapeSamex5
import Derived.Test.YtkdkmpbdpniccaaPureFnExactShapeSame
import Derived.Test.YtkdkmpbdpniccaaOpen
import Derived.WalkKit
import Derived.ProofKit
import Derived.OpenShut
import Derived.ShutString
import Derived.ChangeOld
import Derived.Below
import Derived.SizedLaws
namespace Go.Proofs.Ytkdkmpbdpniccaa.fnExactShapeSame
open Go.ChangeShapes Go.WideShapes Go.ChangeAt Go.RowKit
open Go.ChangeMaps (open_string shut_string)
open Go.Proofs.Ytkdkmpbdpniccaa.OFnExactShapeSame Go.Proofs.YtkdkmpbdpniccaaW.PrintWords Go.Proofs.Ytkdkmpbdpniccaa.Base Go.Proofs.Ytkdkmpbdpniccaa.Open
set_option linter.unusedVariables false
theorem own : ownKnob Try.prog.godebug = none := by kernel_rfl
theorem laidOut : laidOutB Try.prog = true := by kernel_rfl
def G67 (x : S67) : Prop := gStr x.f0 ∧ (gL gInt) x.f1
theorem opens67 {W : World} : Opens Try.prog W 67 k67 G67 := opens_struct Try.underlying67 (by kernel_rfl) _ (fun p => ⟨p.1, p.2⟩) (fun _ => rfl) (fun n => (opensF_cons rfl (by kernel_rfl) ((opens_string Try.underlying9) n) (opensF_last rfl (by kernel_rfl) ((opens_slice 3 Try.underlying36 (by kernel_rfl) (opens_int Try.underlying3)) n)))) (fun _ h => h)
set_option maxRecDepth 100000 in
theorem lifted (os : Os) (started : os.Started) (H : Type) (enc : TypeId × Value → H) :
    ReturnsInHanded {} Try.checked os 6 .any (Rows.fnExactShapeSameSpec.pre6 enc Try.prog Try.f6 Rows.fnExactShapeSameRow.domain false) (Rows.fnExactShapeSameSpec.post enc Try.prog Try.f6 false true false false) := by
  refine returnsInHanded_of_change_sized (C := Try.checked) own started (by kernel_rfl) Try.func6
    (ChangeSpec.witness6 (enc := enc) (C := Try.checked) false ⟨#[], #[.agg #[.slice none 0 0, .slice none 0 0], .agg #[.slice none 0 0, .slice none 0 0]], []⟩ 8 (by kernel_rfl) (by kernel_rfl) (by kernel_rfl) (by kernel_rfl)) ?_
  intro W base args ds gs before hval0 hW hcnd hsz0 _
  have hval : ∀ (j : Nat) t v, Try.f6.params[j]? = some t → args[j]? = some v → Value.okWide Try.prog W .any base t v := hval0
  have hW' := hW
  obtain ⟨p, q, hA0, hV, rfl, hfz, hnd⟩ := hW
  have hA : DataW.TrodAll enc Try.prog W 0 (fun _ => true) true Try.f6.params.toList args.toList ds p := hA0
  rw [Try.params6] at hA hval
  obtain ⟨v0, vs0, d0, ds0, p0, q0, hargs, rfl, rfl, h0, r0⟩ := trodAll_cons hA
  obtain ⟨v1, vs1, d1, ds1, p1, q1, rfl, rfl, rfl, h1, r1⟩ := trodAll_cons r0
  obtain ⟨rfl, rfl, rfl⟩ := trodAll_nil r1
  obtain rfl : args = #[v0, v1] := by cases args; simp_all
  obtain ⟨rfl, rfl⟩ := trodVars_none hV
  obtain ⟨cs0, rfl, hsz0⟩ := okWide_struct Try.underlying25 (hval 0 25 v0 rfl rfl)
  have k0 := h0
  have lt0 : ∀ x ∈ p0, x.block < W.heap.size := by obtain ⟨m, hm⟩ := k0; exact DataW.trod_lt m _ _ _ hm
  obtain ⟨⟨l0_0, l0_1⟩, hK0, g0⟩ := Opens.arg_struct (opens_struct (β := _) Try.underlying25 (by kernel_rfl) (fun x => x) (fun x => x) (fun _ => rfl) (fun n => (opensF_cons rfl (by kernel_rfl) ((opens_slice 67 Try.underlying23 (by kernel_rfl) opens67) n) (opensF_last rfl (by kernel_rfl) ((opens_slice 67 Try.underlying23 (by kernel_rfl) opens67) n)))) (fun _ h => h)) h0
  obtain ⟨_, _, e0, ⟨A0_0, c0_0, rfl, hc0_0, hr0_0⟩, ⟨A0_1, c0_1, rfl, hc0_1, hr0_1⟩⟩ := hK0
  obtain rfl : cs0 = #[.slice A0_0 l0_0.length c0_0, .slice A0_1 l0_1.length c0_1] := by
    cases cs0
    simpa using e0
  obtain ⟨cs1, rfl, hsz1⟩ := okWide_struct Try.underlying25 (hval 1 25 v1 rfl rfl)
  have k1 := h1
  have lt1 : ∀ x ∈ p1, x.block < W.heap.size := by obtain ⟨m, hm⟩ := k1; exact DataW.trod_lt m _ _ _ hm
  obtain ⟨⟨l1_0, l1_1⟩, hK1, g1⟩ := Opens.arg_struct (opens_struct (β := _) Try.underlying25 (by kernel_rfl) (fun x => x) (fun x => x) (fun _ => rfl) (fun n => (opensF_cons rfl (by kernel_rfl) ((opens_slice 67 Try.underlying23 (by kernel_rfl) opens67) n) (opensF_last rfl (by kernel_rfl) ((opens_slice 67 Try.underlying23 (by kernel_rfl) opens67) n)))) (fun _ h => h)) h1
  obtain ⟨_, _, e1, ⟨A1_0, c1_0, rfl, hc1_0, hr1_0⟩, ⟨A1_1, c1_1, rfl, hc1_1, hr1_1⟩⟩ := hK1
  obtain rfl : cs1 = #[.slice A1_0 l1_0.length c1_0, .slice A1_1 l1_1.length c1_1] := by
    cases cs1
    simpa using e1
  clear hA0 hval0 hsz0
  obtain ⟨k, hk⟩ := Pure.FnExactShapeSame l0_0 l0_1 l1_0 l1_1 g0 g1
  refine (laws_FnExactShapeSame.calls k A0_0 c0_0 l0_0 A0_1 c0_1 l0_1 A1_0 c1_0 l1_0 A1_1 c1_1 l1_1 true W hr0_0 hc0_0 hr0_1 hc0_1 hr1_0 hc1_0 hr1_1 hc1_1 hk).mono fun e W' ⟨he, bel⟩ => ?_
  subst he
  exact ⟨_, rfl, _, _, _, [], _, [], hW', trodAll_mk1 (shut_bool Try.underlying4 _), (trodAll_cons_mk (Below.trod laidOut (by kernel_rfl) (of_decide_eq_true (by kernel_rfl)) k0 bel lt0) (trodAll_cons_mk (Below.trod laidOut (by kernel_rfl) (of_decide_eq_true (by kernel_rfl)) k1 bel lt1) trodAll_mk0)), rfl, bel.frame _, fun h => by cases h⟩
theorem over : Rows.fnExactShapeSameRow.holds Try.pinned (OpenSpec.ofChange Rows.fnExactShapeSameSpec) :=
  OpenClaim.holds_of_wide 6 Try.f6 rfl rfl rfl rfl rfl rfl rfl ⟨rfl, rfl, rfl, rfl, rfl⟩ rfl rfl rfl rfl rfl (by kernel_rfl) Try.func6 (by kernel_rfl)
    (of_decide_eq_true (by kernel_rfl)) (by unfold Func.isWrapper; first | (rw [if_pos (by decide +kernel)]; kernel_rfl) | (rw [if_neg (by decide +kernel)]; exact ⟨rfl, rfl⟩))
    (fun os started H enc _ => lifted os started H enc)
theorem proved : Rows.FnExactShapeSameSaid := over
#print axioms proved
end Go.Proofs.Ytkdkmpbdpniccaa.fnExactShapeSame
namespace Go.Proofs.Ytkdkmpbdpniccaa
theorem fnExactShapeSame_holds : Rows.FnExactShapeSameSaid := fnExactShapeSame.proved
end Go.Proofs.Ytkdkmpbdpniccaa
