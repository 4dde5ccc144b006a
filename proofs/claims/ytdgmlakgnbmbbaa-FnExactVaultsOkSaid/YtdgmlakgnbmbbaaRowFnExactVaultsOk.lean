/- The statement FnExactVaultsOkSaid: for every input the law returns true and leaves its arguments as they were. No condition of our own. -/
import Derived.Test.YtdgmlakgnbmbbaaRows
import Derived.Test.YtdgmlakgnbmbbaaOFnExactVaultsOkx14
import Derived.Test.YtdgmlakgnbmbbaaPureFnExactVaultsOk
import Derived.Test.YtdgmlakgnbmbbaaOpen
import Derived.WalkKit
import Derived.ProofKit
import Derived.OpenShut
import Derived.ShutString
import Derived.ChangeOld
import Derived.Below
import Derived.SizedLaws
namespace Go.Proofs.Ytdgmlakgnbmbbaa.fnExactVaultsOk
open Go.ChangeShapes Go.WideShapes Go.ChangeAt Go.RowKit
open Go.ChangeMaps (open_string shut_string)
open Go.Proofs.Ytdgmlakgnbmbbaa.OFnExactVaultsOk Go.Proofs.YtdgmlakgnbmbbaaW.PrintWords Go.Proofs.Ytdgmlakgnbmbbaa.Base Go.Proofs.Ytdgmlakgnbmbbaa.Open
set_option linter.unusedVariables false
theorem own : ownKnob Try.prog.godebug = none := by kernel_rfl
theorem laidOut : laidOutB Try.prog = true := by kernel_rfl
def G124 (x : S124) : Prop := gInt x.f0 ∧ (gL gStr) x.f1
theorem opens124 {W : World} : Opens Try.prog W 124 k124 G124 := opens_struct Try.underlying124 (by kernel_rfl) _ (fun p => ⟨p.1, p.2⟩) (fun _ => rfl) (fun n => (opensF_cons rfl (by kernel_rfl) ((opens_int Try.underlying3) n) (opensF_last rfl (by kernel_rfl) ((opens_slice 9 Try.underlying111 (by kernel_rfl) (opens_string Try.underlying9)) n)))) (fun _ h => h)
theorem gval_mk {y0 : ByteArray} {y1 : Int} {y2 : List S39} {y3 : List Int} (h : gStr y0 ∧ gInt y1 ∧ (gL Pure.gVal) y2 ∧ (gL gInt) y3) : Pure.gVal ⟨y0, y1, y2, y3⟩ := by
  rw [Pure.gVal]
  exact ⟨h.1, h.2.1, ⟨h.2.2.1.1, Pure.gValS_of h.2.2.1.2⟩, h.2.2.2⟩
theorem opens39 {W : World} : Opens Try.prog W 39 k39 Pure.gVal := by
  intro n
  induction n using Nat.strongRecOn with
  | ind n ih =>
    cases n with
    | zero => exact opensN_zero
    | succ n =>
      have hS_ : OpensN Try.prog W n 37 (Kd.slice 39 k39) (gL Pure.gVal) := by
        cases n with
        | zero => exact opensN_zero
        | succ m => exact opensN_slice 39 Try.underlying37 (by kernel_rfl) (ih m (by omega))
      have h : OpensN Try.prog W (n + 1) 39 (F39 k39) Pure.gVal := opensN_struct Try.underlying39 (by kernel_rfl) _ (fun p => ⟨p.1, p.2.1, p.2.2.1, p.2.2.2⟩) (fun _ => rfl) (opensF_cons rfl (by kernel_rfl) ((opens_string Try.underlying9) n) (opensF_cons rfl (by kernel_rfl) ((opens_int Try.underlying3) n) (opensF_cons rfl (by kernel_rfl) hS_ (opensF_last rfl (by kernel_rfl) ((opens_slice 3 Try.underlying25 (by kernel_rfl) (opens_int Try.underlying3)) n))))) (fun x h => gval_mk h)
      intro H enc cs y hy
      obtain ⟨x, hK, hG⟩ := h H enc cs y hy
      obtain ⟨_, _, rfl, rfl, ⟨_, _, rfl, rfl, ⟨_, _, rfl, ⟨A2, c2, rfl, l2, g2⟩, ⟨A3, c3, rfl, l3, g3⟩⟩⟩⟩ := hK
      exact ⟨x, k39_mk W x l2 g2 l3 g3, hG⟩
def G96 (x : S96) : Prop := gInt x.f0 ∧ Pure.gVal x.f1
theorem opens96 {W : World} : Opens Try.prog W 96 k96 G96 := opens_struct Try.underlying96 (by kernel_rfl) _ (fun p => ⟨p.1, p.2⟩) (fun _ => rfl) (fun n => (opensF_cons rfl (by kernel_rfl) ((opens_int Try.underlying3) n) (opensF_last rfl (by kernel_rfl) (opens39 n)))) (fun _ h => h)
set_option maxRecDepth 100000 in
theorem lifted (os : Os) (started : os.Started) (H : Type) (enc : TypeId × Value → H) :
    ReturnsInHanded {} Try.checked os 9 .any (Rows.fnExactVaultsOkSpec.pre6 enc Try.prog Try.f9 Rows.fnExactVaultsOkRow.domain false) (Rows.fnExactVaultsOkSpec.post enc Try.prog Try.f9 false true false false) := by
  refine returnsInHanded_of_change_sized (C := Try.checked) own started (by kernel_rfl) Try.func9
    (ChangeSpec.witness6 (enc := enc) (C := Try.checked) false ⟨#[], #[.slice none 0 0, .slice none 0 0], []⟩ 8 (by kernel_rfl) (by kernel_rfl) (by kernel_rfl) (by kernel_rfl)) ?_
  intro W base args ds gs before hval0 hW hcnd hsz0 _
  have hval : ∀ (j : Nat) t v, Try.f9.params[j]? = some t → args[j]? = some v → Value.okWide Try.prog W .any base t v := hval0
  have hW' := hW
  obtain ⟨p, q, hA0, hV, rfl, hfz, hnd⟩ := hW
  have hA : DataW.TrodAll enc Try.prog W 0 (fun _ => true) true Try.f9.params.toList args.toList ds p := hA0
  rw [Try.params9] at hA hval
  obtain ⟨v0, vs0, d0, ds0, p0, q0, hargs, rfl, rfl, h0, r0⟩ := trodAll_cons hA
  obtain ⟨v1, vs1, d1, ds1, p1, q1, rfl, rfl, rfl, h1, r1⟩ := trodAll_cons r0
  obtain ⟨rfl, rfl, rfl⟩ := trodAll_nil r1
  obtain rfl : args = #[v0, v1] := by cases args; simp_all
  obtain ⟨rfl, rfl⟩ := trodVars_none hV
  obtain ⟨A0, len0, c0, rfl⟩ := okWide_slice Try.underlying36 (hval 0 36 v0 rfl rfl)
  have k0 := h0
  have lt0 : ∀ x ∈ p0, x.block < W.heap.size := by obtain ⟨m, hm⟩ := k0; exact DataW.trod_lt m _ _ _ hm
  obtain ⟨l0, rfl, hc0, hr0, g0⟩ := Opens.arg_slice (opens_slice 79 Try.underlying36 (by kernel_rfl) (opens_slice 124 Try.underlying79 (by kernel_rfl) opens124)) h0
  obtain ⟨A1, len1, c1, rfl⟩ := okWide_slice Try.underlying56 (hval 1 56 v1 rfl rfl)
  have k1 := h1
  have lt1 : ∀ x ∈ p1, x.block < W.heap.size := by obtain ⟨m, hm⟩ := k1; exact DataW.trod_lt m _ _ _ hm
  obtain ⟨l1, rfl, hc1, hr1, g1⟩ := Opens.arg_slice (opens_slice 96 Try.underlying56 (by kernel_rfl) opens96) h1
  clear hA0 hval0 hsz0
  obtain ⟨k, hk⟩ := Pure.FnExactVaultsOk l0 l1 g0 g1
  refine (laws_FnExactVaultsOk.calls k A0 c0 l0 A1 c1 l1 true W hr0 hc0 hr1 hc1 hk).mono fun e W' ⟨he, bel⟩ => ?_
  subst he
  exact ⟨_, rfl, _, _, _, [], _, [], hW', trodAll_mk1 (shut_bool Try.underlying4 _), (trodAll_cons_mk (Below.trod laidOut (by kernel_rfl) (of_decide_eq_true (by kernel_rfl)) k0 bel lt0) (trodAll_cons_mk (Below.trod laidOut (by kernel_rfl) (of_decide_eq_true (by kernel_rfl)) k1 bel lt1) trodAll_mk0)), rfl, bel.frame _, fun h => by cases h⟩
theorem over : Rows.fnExactVaultsOkRow.holds Try.pinned (OpenSpec.ofChange Rows.fnExactVaultsOkSpec) :=
  OpenClaim.holds_of_wide 9 Try.f9 rfl rfl rfl rfl rfl rfl rfl ⟨rfl, rfl, rfl, rfl, rfl⟩ rfl rfl rfl rfl rfl (by kernel_rfl) Try.func9 (by kernel_rfl)
    (of_decide_eq_true (by kernel_rfl)) (by unfold Func.isWrapper; first | (rw [if_pos (by decide +kernel)]; kernel_rfl) | (rw [if_neg (by decide +kernel)]; exact ⟨rfl, rfl⟩))
    (fun os started H enc _ => lifted os started H enc)
theorem proved : Rows.FnExactVaultsOkSaid := over
#print axioms proved
end Go.Proofs.Ytdgmlakgnbmbbaa.fnExactVaultsOk
namespace Go.Proofs.Ytdgmlakgnbmbbaa
theorem fnExactVaultsOk_holds : Rows.FnExactVaultsOkSaid := fnExactVaultsOk.proved
end Go.Proofs.Ytdgmlakgnbmbbaa
