/- The statement FnExactFuncPlaceSaid: for every input the law returns true and leaves its arguments as they were. No condition of our own. -/
import Derived.Test.YtkdkmpbdpniccaaRows
import Derived.Test.YtkdkmpbdpniccaaPFnExactFuncPlacex4
import Derived.Test.YtkdkmpbdpniccaaPureFnExactFuncPlace
import Derived.Test.YtkdkmpbdpniccaaOpen
import Derived.WalkKit
import Derived.ProofKit
import Derived.OpenShut
import Derived.ShutString
import Derived.ChangeOld
import Derived.Below
import Derived.SizedLaws
namespace Go.Proofs.Ytkdkmpbdpniccaa.fnExactFuncPlace
open Go.ChangeShapes Go.WideShapes Go.ChangeAt Go.RowKit
open Go.ChangeMaps (open_string shut_string)
open Go.Proofs.Ytkdkmpbdpniccaa.PFnExactFuncPlace Go.Proofs.YtkdkmpbdpniccaaW.PrintWords Go.Proofs.Ytkdkmpbdpniccaa.Base Go.Proofs.Ytkdkmpbdpniccaa.Open
set_option linter.unusedVariables false
theorem own : ownKnob Try.prog.godebug = none := by kernel_rfl
theorem laidOut : laidOutB Try.prog = true := by kernel_rfl
def G79 (x : S79) : Prop := gStr x.f0 ∧ gInt x.f1 ∧ gInt x.f2
theorem opens79 {W : World} : Opens Try.prog W 79 k79 G79 := opens_struct Try.underlying79 (by kernel_rfl) _ (fun p => ⟨p.1, p.2.1, p.2.2⟩) (fun _ => rfl) (fun n => (opensF_cons rfl (by kernel_rfl) ((opens_string Try.underlying9) n) (opensF_cons rfl (by kernel_rfl) ((opens_int Try.underlying3) n) (opensF_last rfl (by kernel_rfl) ((opens_int Try.underlying3) n))))) (fun _ h => h)
set_option maxRecDepth 100000 in
theorem lifted (os : Os) (started : os.Started) (H : Type) (enc : TypeId × Value → H) :
    ReturnsInHanded {} Try.checked os 7 .any (Rows.fnExactFuncPlaceSpec.pre6 enc Try.prog Try.f7 Rows.fnExactFuncPlaceRow.domain false) (Rows.fnExactFuncPlaceSpec.post enc Try.prog Try.f7 false true false false) := by
  refine returnsInHanded_of_change_sized (C := Try.checked) own started (by kernel_rfl) Try.func7
    (ChangeSpec.witness6 (enc := enc) (C := Try.checked) false ⟨#[], #[.agg #[.int .i64 0, .slice none 0 0, .slice none 0 0, .slice none 0 0, .slice none 0 0, .slice none 0 0], .int .i64 0], []⟩ 8 (by kernel_rfl) (by kernel_rfl) (by kernel_rfl) (by kernel_rfl)) ?_
  intro W base args ds gs before hval0 hW hcnd hsz0 _
  have hval : ∀ (j : Nat) t v, Try.f7.params[j]? = some t → args[j]? = some v → Value.okWide Try.prog W .any base t v := hval0
  have hW' := hW
  obtain ⟨p, q, hA0, hV, rfl, hfz, hnd⟩ := hW
  have hA : DataW.TrodAll enc Try.prog W 0 (fun _ => true) true Try.f7.params.toList args.toList ds p := hA0
  rw [Try.params7] at hA hval
  obtain ⟨v0, vs0, d0, ds0, p0, q0, hargs, rfl, rfl, h0, r0⟩ := trodAll_cons hA
  obtain ⟨v1, vs1, d1, ds1, p1, q1, rfl, rfl, rfl, h1, r1⟩ := trodAll_cons r0
  obtain ⟨rfl, rfl, rfl⟩ := trodAll_nil r1
  obtain rfl : args = #[v0, v1] := by cases args; simp_all
  obtain ⟨rfl, rfl⟩ := trodVars_none hV
  obtain ⟨cs0, rfl, hsz0⟩ := okWide_struct Try.underlying39 (hval 0 39 v0 rfl rfl)
  have k0 := h0
  have lt0 : ∀ x ∈ p0, x.block < W.heap.size := by obtain ⟨m, hm⟩ := k0; exact DataW.trod_lt m _ _ _ hm
  obtain ⟨⟨a0_0, l0_1, l0_2, l0_3, l0_4, l0_5⟩, hK0, g0⟩ := Opens.arg_struct (opens_struct (β := _) Try.underlying39 (by kernel_rfl) (fun x => x) (fun x => x) (fun _ => rfl) (fun n => (opensF_cons rfl (by kernel_rfl) ((opens_int Try.underlying3) n) (opensF_cons rfl (by kernel_rfl) ((opens_slice 9 Try.underlying35 (by kernel_rfl) (opens_string Try.underlying9)) n) (opensF_cons rfl (by kernel_rfl) ((opens_slice 9 Try.underlying35 (by kernel_rfl) (opens_string Try.underlying9)) n) (opensF_cons rfl (by kernel_rfl) ((opens_slice 9 Try.underlying35 (by kernel_rfl) (opens_string Try.underlying9)) n) (opensF_cons rfl (by kernel_rfl) ((opens_slice 3 Try.underlying36 (by kernel_rfl) (opens_int Try.underlying3)) n) (opensF_last rfl (by kernel_rfl) ((opens_slice 79 Try.underlying37 (by kernel_rfl) opens79) n)))))))) (fun _ h => h)) h0
  obtain ⟨_, _, e0, rfl, ⟨_, _, rfl, ⟨A0_1, c0_1, rfl, hc0_1, hr0_1⟩, ⟨_, _, rfl, ⟨A0_2, c0_2, rfl, hc0_2, hr0_2⟩, ⟨_, _, rfl, ⟨A0_3, c0_3, rfl, hc0_3, hr0_3⟩, ⟨_, _, rfl, ⟨A0_4, c0_4, rfl, hc0_4, hr0_4⟩, ⟨A0_5, c0_5, rfl, hc0_5, hr0_5⟩⟩⟩⟩⟩⟩ := hK0
  obtain rfl : cs0 = #[.int .i64 a0_0, .slice A0_1 l0_1.length c0_1, .slice A0_2 l0_2.length c0_2, .slice A0_3 l0_3.length c0_3, .slice A0_4 l0_4.length c0_4, .slice A0_5 l0_5.length c0_5] := by
    cases cs0
    simpa using e0
  obtain ⟨a1, rfl, rfl, rfl, w1⟩ := open_int Try.underlying3 (hval 1 3 v1 rfl rfl) h1
  clear hA0 hval0 hsz0
  obtain ⟨k, hk⟩ := Pure.FnExactFuncPlace a0_0 l0_1 l0_2 l0_3 l0_4 l0_5 a1 g0 (gInt_wf w1)
  refine (laws_FnExactFuncPlace.calls k a0_0 A0_1 c0_1 l0_1 A0_2 c0_2 l0_2 A0_3 c0_3 l0_3 A0_4 c0_4 l0_4 A0_5 c0_5 l0_5 a1 true W hr0_1 hc0_1 hr0_2 hc0_2 hr0_3 hc0_3 hr0_4 hc0_4 hr0_5 hc0_5 hk).mono fun e W' ⟨he, bel⟩ => ?_
  subst he
  exact ⟨_, rfl, _, _, _, [], _, [], hW', trodAll_mk1 (shut_bool Try.underlying4 _), (trodAll_cons_mk (Below.trod laidOut (by kernel_rfl) (of_decide_eq_true (by kernel_rfl)) k0 bel lt0) (trodAll_cons_mk (shut_int Try.underlying3 w1) trodAll_mk0)), rfl, bel.frame _, fun h => by cases h⟩
theorem over : Rows.fnExactFuncPlaceRow.holds Try.pinned (OpenSpec.ofChange Rows.fnExactFuncPlaceSpec) :=
  OpenClaim.holds_of_wide 7 Try.f7 rfl rfl rfl rfl rfl rfl rfl ⟨rfl, rfl, rfl, rfl, rfl⟩ rfl rfl rfl rfl rfl (by kernel_rfl) Try.func7 (by kernel_rfl)
    (of_decide_eq_true (by kernel_rfl)) (by unfold Func.isWrapper; first | (rw [if_pos (by decide +kernel)]; kernel_rfl) | (rw [if_neg (by decide +kernel)]; exact ⟨rfl, rfl⟩))
    (fun os started H enc _ => lifted os started H enc)
theorem proved : Rows.FnExactFuncPlaceSaid := over
#print axioms proved
end Go.Proofs.Ytkdkmpbdpniccaa.fnExactFuncPlace
namespace Go.Proofs.Ytkdkmpbdpniccaa
theorem fnExactFuncPlace_holds : Rows.FnExactFuncPlaceSaid := fnExactFuncPlace.proved
end Go.Proofs.Ytkdkmpbdpniccaa
