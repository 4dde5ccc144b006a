/- The statement FnExactValueReadSaid: for every input the law returns true and leaves its arguments as they were. No condition of our own. -/
import Derived.Test.YtdgmlakgnbmbbaaRows
import Derived.Test.YtdgmlakgnbmbbaaHandFnExactValueRead
import Derived.Test.YtdgmlakgnbmbbaaPureFnExactValueRead
import Derived.Test.YtdgmlakgnbmbbaaOpen
import Derived.WalkKit
import Derived.ProofKit
import Derived.OpenShut
import Derived.ShutString
import Derived.ChangeOld
import Derived.Below
import Derived.SizedLaws
namespace Go.Proofs.Ytdgmlakgnbmbbaa.fnExactValueRead
open Go.ChangeShapes Go.WideShapes Go.ChangeAt Go.RowKit
open Go.ChangeMaps (open_string shut_string)
open Go.Proofs.Ytdgmlakgnbmbbaa.OFnExactValueRead Go.Proofs.YtdgmlakgnbmbbaaW.PrintWords Go.Proofs.Ytdgmlakgnbmbbaa.Base Go.Proofs.Ytdgmlakgnbmbbaa.Open
set_option linter.unusedVariables false
theorem own : ownKnob Try.prog.godebug = none := by kernel_rfl
theorem laidOut : laidOutB Try.prog = true := by kernel_rfl
def G124 (x : S124) : Prop := gInt x.f0 ∧ (gL gStr) x.f1
theorem opens124 {W : World} : Opens Try.prog W 124 k124 G124 := opens_struct Try.underlying124 (by kernel_rfl) _ (fun p => ⟨p.1, p.2⟩) (fun _ => rfl) (fun n => (opensF_cons rfl (by kernel_rfl) ((opens_int Try.underlying3) n) (opensF_last rfl (by kernel_rfl) ((opens_slice 9 Try.underlying111 (by kernel_rfl) (opens_string Try.underlying9)) n)))) (fun _ h => h)
set_option maxRecDepth 100000 in
theorem lifted (os : Os) (started : os.Started) (H : Type) (enc : TypeId × Value → H) :
    ReturnsInHanded {} Try.checked os 10 .any (Rows.fnExactValueReadSpec.pre6 enc Try.prog Try.f10 Rows.fnExactValueReadRow.domain false) (Rows.fnExactValueReadSpec.post enc Try.prog Try.f10 false true false false) := by
  refine returnsInHanded_of_change_sized (C := Try.checked) own started (by kernel_rfl) Try.func10
    (ChangeSpec.witness6 (enc := enc) (C := Try.checked) false ⟨#[], #[.slice none 0 0, .string ByteArray.empty], []⟩ 8 (by kernel_rfl) (by kernel_rfl) (by kernel_rfl) (by kernel_rfl)) ?_
  intro W base args ds gs before hval0 hW hcnd hsz0 _
  have hval : ∀ (j : Nat) t v, Try.f10.params[j]? = some t → args[j]? = some v → Value.okWide Try.prog W .any base t v := hval0
  have hW' := hW
  obtain ⟨p, q, hA0, hV, rfl, hfz, hnd⟩ := hW
  have hA : DataW.TrodAll enc Try.prog W 0 (fun _ => true) true Try.f10.params.toList args.toList ds p := hA0
  rw [Try.params10] at hA hval
  obtain ⟨v0, vs0, d0, ds0, p0, q0, hargs, rfl, rfl, h0, r0⟩ := trodAll_cons hA
  obtain ⟨v1, vs1, d1, ds1, p1, q1, rfl, rfl, rfl, h1, r1⟩ := trodAll_cons r0
  obtain ⟨rfl, rfl, rfl⟩ := trodAll_nil r1
  obtain rfl : args = #[v0, v1] := by cases args; simp_all
  obtain ⟨rfl, rfl⟩ := trodVars_none hV
  obtain ⟨A0, len0, c0, rfl⟩ := okWide_slice Try.underlying36 (hval 0 36 v0 rfl rfl)
  have k0 := h0
  have lt0 : ∀ x ∈ p0, x.block < W.heap.size := by obtain ⟨m, hm⟩ := k0; exact DataW.trod_lt m _ _ _ hm
  obtain ⟨l0, rfl, hc0, hr0, g0⟩ := Opens.arg_slice (opens_slice 79 Try.underlying36 (by kernel_rfl) (opens_slice 124 Try.underlying79 (by kernel_rfl) opens124)) h0
  obtain ⟨a1, rfl, rfl, rfl, y1⟩ := open_string Try.underlying9 (hval 1 9 v1 rfl rfl) h1
  clear hA0 hval0 hsz0
  refine (Hand.fin A0 c0 l0 a1 W hr0 hc0 g0 (gStr_le y1)).mono fun e W' ⟨he, bel⟩ => ?_
  subst he
  exact ⟨_, rfl, _, _, _, [], _, [], hW', trodAll_mk1 (shut_bool Try.underlying4 _), (trodAll_cons_mk (Below.trod laidOut (by kernel_rfl) (of_decide_eq_true (by kernel_rfl)) k0 bel lt0) (trodAll_cons_mk (shut_string Try.underlying9 y1) trodAll_mk0)), rfl, bel.frame _, fun h => by cases h⟩
theorem over : Rows.fnExactValueReadRow.holds Try.pinned (OpenSpec.ofChange Rows.fnExactValueReadSpec) :=
  OpenClaim.holds_of_wide 10 Try.f10 rfl rfl rfl rfl rfl rfl rfl ⟨rfl, rfl, rfl, rfl, rfl⟩ rfl rfl rfl rfl rfl (by kernel_rfl) Try.func10 (by kernel_rfl)
    (of_decide_eq_true (by kernel_rfl)) (by unfold Func.isWrapper; first | (rw [if_pos (by decide +kernel)]; kernel_rfl) | (rw [if_neg (by decide +kernel)]; exact ⟨rfl, rfl⟩))
    (fun os started H enc _ => lifted os started H enc)
theorem proved : Rows.FnExactValueReadSaid := over
#print axioms proved
end Go.Proofs.Ytdgmlakgnbmbbaa.fnExactValueRead
namespace Go.Proofs.Ytdgmlakgnbmbbaa
theorem fnExactValueRead_holds : Rows.FnExactValueReadSaid := fnExactValueRead.proved
end Go.Proofs.Ytdgmlakgnbmbbaa
