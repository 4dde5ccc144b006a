/- The statement FnExactValueTextSaid: for every input the law returns true and leaves its arguments as they were. No condition of our own. -/
import Derived.Test.YtdgmlakgnbmbbaaDoorRows
import Derived.Test.YtdgmlakgnbmbbaaDoorCards
import Derived.Test.YtdgmlakgnbmbbaaDoorTie
import Derived.SevenTiedAt
import Derived.LaidMore
import Derived.LaidLaws
import Derived.LaidHandle
import Derived.Lay
import Derived.HandedShaped
import Derived.MakeChecks
import Derived.JoinedOf
import Derived.Lib.LaidTab
import Derived.Stop.Joined
import Derived.Stop.LaidErr
import Derived.Test.YtdgmlakgnbmbbaaDoorOFnExactValueTextx14
import Derived.Test.YtdgmlakgnbmbbaaDoorPureFnExactValueText
import Derived.Test.YtdgmlakgnbmbbaaDoorOpen
import Derived.WalkKit
import Derived.ProofKit
import Derived.OpenShut
import Derived.ShutString
import Derived.ChangeOld
import Derived.Below
import Derived.SizedLaws
namespace Go.Proofs.YtdgmlakgnbmbbaaDoor.fnExactValueText
open Go.ChangeShapes Go.WideShapes Go.ChangeAt Go.RowKit
open Go.ChangeMaps (open_string shut_string)
open Go.Proofs.YtdgmlakgnbmbbaaDoor.OFnExactValueText Go.Proofs.YtdgmlakgnbmbbaaDoorW.PrintWords Go.Proofs.YtdgmlakgnbmbbaaDoor.Base Go.Proofs.YtdgmlakgnbmbbaaDoor.Open
set_option linter.unusedVariables false
theorem own : ownKnob Tryd.prog.godebug = none := by kernel_rfl
theorem laidOut : laidOutB Tryd.prog = true := by kernel_rfl
def G99 (x : S99) : Prop := gInt x.f0 ∧ (gL gStr) x.f1
theorem opens99 {W : World} : Opens Tryd.prog W 99 k99 G99 := opens_struct Tryd.underlying99 (by kernel_rfl) _ (fun p => ⟨p.1, p.2⟩) (fun _ => rfl) (fun n => (opensF_cons rfl (by kernel_rfl) ((opens_int Tryd.underlying3) n) (opensF_last rfl (by kernel_rfl) ((opens_slice 9 Tryd.underlying73 (by kernel_rfl) (opens_string Tryd.underlying9)) n)))) (fun _ h => h)
theorem gval_mk {y0 : ByteArray} {y1 : Int} {y2 : List S39} {y3 : List Int} (h : gStr y0 ∧ gInt y1 ∧ (gL Pure.gVal) y2 ∧ (gL gInt) y3) : Pure.gVal ⟨y0, y1, y2, y3⟩ := by
  rw [Pure.gVal]
  exact ⟨h.1, h.2.1, ⟨h.2.2.1.1, Pure.gValS_of h.2.2.1.2⟩, h.2.2.2⟩
theorem opens39 {W : World} : Opens Tryd.prog W 39 k39 Pure.gVal := by
  intro n
  induction n using Nat.strongRecOn with
  | ind n ih =>
    cases n with
    | zero => exact opensN_zero
    | succ n =>
      have hS_ : OpensN Tryd.prog W n 37 (Kd.slice 39 k39) (gL Pure.gVal) := by
        cases n with
        | zero => exact opensN_zero
        | succ m => exact opensN_slice 39 Tryd.underlying37 (by kernel_rfl) (ih m (by omega))
      have h : OpensN Tryd.prog W (n + 1) 39 (F39 k39) Pure.gVal := opensN_struct Tryd.underlying39 (by kernel_rfl) _ (fun p => ⟨p.1, p.2.1, p.2.2.1, p.2.2.2⟩) (fun _ => rfl) (opensF_cons rfl (by kernel_rfl) ((opens_string Tryd.underlying9) n) (opensF_cons rfl (by kernel_rfl) ((opens_int Tryd.underlying3) n) (opensF_cons rfl (by kernel_rfl) hS_ (opensF_last rfl (by kernel_rfl) ((opens_slice 3 Tryd.underlying25 (by kernel_rfl) (opens_int Tryd.underlying3)) n))))) (fun x h => gval_mk h)
      intro H enc cs y hy
      obtain ⟨x, hK, hG⟩ := h H enc cs y hy
      obtain ⟨_, _, rfl, rfl, ⟨_, _, rfl, rfl, ⟨_, _, rfl, ⟨A2, c2, rfl, l2, g2⟩, ⟨A3, c3, rfl, l3, g3⟩⟩⟩⟩ := hK
      exact ⟨x, k39_mk W x l2 g2 l3 g3, hG⟩
set_option maxRecDepth 100000
theorem door_met (os : Os) (args : Array Value) : laidMetH Tryd.prog Rows.fnExactValueTextRow.laid ((World.doorLaid Tryd.prog 400 os).forCall (fun _ _ => 0) ⟨#[], args, []⟩).memory := 
  laidMetH_of_parts3 (fuel := 8) (laidMet_of_run' 8 (by kernel_rfl) (by kernel_rfl)) (by kernel_rfl) (by kernel_rfl)
theorem tab_f2 {W : World} (h : laidMetH Tryd.prog Rows.fnExactValueTextRow.laid W) : Lib.TabIs Tryd.prog W "internal/strconv.uint64pow10" .u64 Lib.pow10Tab := by
  rw [MakeChecks.laidMetH_plain _ _ _ (by kernel_rfl)] at h
  have h2 : laidMet Tryd.prog ((Rows.fnExactValueTextRow.laid).drop 2) W := h.tail.tail
  have e : (Rows.fnExactValueTextRow.laid).drop 2 = ("internal/strconv.uint64pow10", Lib.tabData .u64 Lib.pow10Tab) :: (Rows.fnExactValueTextRow.laid).drop (2 + 1) := by kernel_rfl
  rw [e] at h2
  exact Lib.tabIs_of_head (g := 0) (t := 135) (e := 126) (n := 20) (by kernel_rfl) (by kernel_rfl) Tryd.underlying135 Tryd.underlying126 (by kernel_rfl) (by kernel_rfl) h2
/-- What the row's condition gives the walks: the tables stand. -/
theorem tab_of_laid {W : World} (h : laidMetH Tryd.prog Rows.fnExactValueTextRow.laid W) : OFnExactValueText.Tab W := ⟨tab_f2 h⟩
set_option maxRecDepth 100000 in
theorem lifted (os : Os) (started : os.Started) (H : Type) (enc : TypeId × Value → H) :
    ReturnsInHanded {} Tryd.checked os 5 .any (fun w args => (Rows.fnExactValueTextSpec.pre enc Tryd.prog Tryd.f5 [] false w args ∧ laidMetH Tryd.prog Rows.fnExactValueTextRow.laid w) ∧ sizedMet enc Tryd.prog Tryd.f5 (OpenSpec.ofChange Rows.fnExactValueTextSpec) false w args) (Rows.fnExactValueTextSpec.post enc Tryd.prog Tryd.f5 false true false false) := by
  refine returnsInHanded_of_change_and (C := Tryd.checked) (X := fun w _ => laidMetH Tryd.prog Rows.fnExactValueTextRow.laid w) (fun _ _ _ hh h => h.of_heap hh) own started (by kernel_rfl) Tryd.func5
    (ChangeSpec.witness_shaped (enc := enc) (C := Tryd.checked) (os := os) (X := fun w _ => laidMetH Tryd.prog Rows.fnExactValueTextRow.laid w) false (World.doorLaid Tryd.prog 400 os) #[.slice none 0 0, .agg #[.string ByteArray.empty, .int .i64 0, .slice none 0 0, .slice none 0 0]] 8 rfl (World.shaped_of_RefB (by kernel_rfl) (by kernel_rfl)) (by kernel_rfl) (by kernel_rfl) (by kernel_rfl) (door_met os _)) ?_
  intro W base args ds gs before hval0 hW hcnd hsz0 hL _
  have hT_ := tab_of_laid hL
  have hval : ∀ (j : Nat) t v, Tryd.f5.params[j]? = some t → args[j]? = some v → Value.okWide Tryd.prog W .any base t v := hval0
  have hW' := hW
  obtain ⟨p, q, hA0, hV, rfl, hfz, hnd⟩ := hW
  have hA : DataW.TrodAll enc Tryd.prog W 0 (fun _ => true) true Tryd.f5.params.toList args.toList ds p := hA0
  rw [Tryd.params5] at hA hval
  obtain ⟨v0, vs0, d0, ds0, p0, q0, hargs, rfl, rfl, h0, r0⟩ := trodAll_cons hA
  obtain ⟨v1, vs1, d1, ds1, p1, q1, rfl, rfl, rfl, h1, r1⟩ := trodAll_cons r0
  obtain ⟨rfl, rfl, rfl⟩ := trodAll_nil r1
  obtain rfl : args = #[v0, v1] := by cases args; simp_all
  obtain ⟨rfl, rfl⟩ := trodVars_none hV
  obtain ⟨A0, len0, c0, rfl⟩ := okWide_slice Tryd.underlying36 (hval 0 36 v0 rfl rfl)
  have k0 := h0
  have lt0 : ∀ x ∈ p0, x.block < W.heap.size := by obtain ⟨m, hm⟩ := k0; exact DataW.trod_lt m _ _ _ hm
  obtain ⟨l0, rfl, hc0, hr0, g0⟩ := Opens.arg_slice (opens_slice 63 Tryd.underlying36 (by kernel_rfl) (opens_slice 99 Tryd.underlying63 (by kernel_rfl) opens99)) h0
  obtain ⟨cs1, rfl, hsz1⟩ := okWide_struct Tryd.underlying39 (hval 1 39 v1 rfl rfl)
  have k1 := h1
  have lt1 : ∀ x ∈ p1, x.block < W.heap.size := by obtain ⟨m, hm⟩ := k1; exact DataW.trod_lt m _ _ _ hm
  obtain ⟨⟨a1_0, a1_1, l1_2, l1_3⟩, hK1, g1⟩ := Opens.arg_struct (opens_struct (β := _) Tryd.underlying39 (by kernel_rfl) (fun x => x) (fun x => x) (fun _ => rfl) (fun n => (opensF_cons rfl (by kernel_rfl) ((opens_string Tryd.underlying9) n) (opensF_cons rfl (by kernel_rfl) ((opens_int Tryd.underlying3) n) (opensF_cons rfl (by kernel_rfl) ((opens_slice 39 Tryd.underlying37 (by kernel_rfl) opens39) n) (opensF_last rfl (by kernel_rfl) ((opens_slice 3 Tryd.underlying25 (by kernel_rfl) (opens_int Tryd.underlying3)) n)))))) (fun _ h => h)) h1
  obtain ⟨_, _, e1, rfl, ⟨_, _, rfl, rfl, ⟨_, _, rfl, ⟨A1_2, c1_2, rfl, hc1_2, hr1_2⟩, ⟨A1_3, c1_3, rfl, hc1_3, hr1_3⟩⟩⟩⟩ := hK1
  obtain rfl : cs1 = #[.string a1_0, .int .i64 a1_1, .slice A1_2 l1_2.length c1_2, .slice A1_3 l1_3.length c1_3] := by
    cases cs1
    simpa using e1
  clear hA0 hval0 hsz0
  obtain ⟨k, hk⟩ := Pure.FnExactValueText l0 ⟨a1_0, a1_1, l1_2, l1_3⟩ g0 (gval_mk g1)
  refine (laws_FnExactValueText.calls (hT_ := hT_) k A0 c0 l0 a1_0 a1_1 A1_2 c1_2 l1_2 A1_3 c1_3 l1_3 true W hr0 hc0 hr1_2 hc1_2 hr1_3 hc1_3 hk).mono fun e W' ⟨he, bel⟩ => ?_
  subst he
  exact ⟨_, rfl, _, _, _, [], _, [], hW', trodAll_mk1 (shut_bool Tryd.underlying4 _), (trodAll_cons_mk (Below.trod laidOut (by kernel_rfl) (of_decide_eq_true (by kernel_rfl)) k0 bel lt0) (trodAll_cons_mk (Below.trod laidOut (by kernel_rfl) (of_decide_eq_true (by kernel_rfl)) k1 bel lt1) trodAll_mk0)), rfl, bel.frame _, fun h => by cases h⟩
theorem over : Rows.fnExactValueTextRow.holds Tryd.pinned (OpenSpec.ofChange Rows.fnExactValueTextSpec) :=
  OpenClaim.holds_of_wide 5 Tryd.f5 rfl rfl rfl rfl rfl rfl rfl ⟨rfl, rfl, rfl, rfl, rfl⟩ rfl rfl rfl rfl rfl (by kernel_rfl) Tryd.func5 (by kernel_rfl)
    (of_decide_eq_true (by kernel_rfl)) (by unfold Func.isWrapper; first | (rw [if_pos (by decide +kernel)]; kernel_rfl) | (rw [if_neg (by decide +kernel)]; exact ⟨rfl, rfl⟩))
    (fun os started H enc _ => lifted os started H enc)
theorem proved : Rows.FnExactValueTextSaid := over
#print axioms proved
/-- THE TIED CARD: the row, its listed variables tied to the program's text. -/
theorem carded : Rows.FnExactValueTextCardSaid :=
  Claim7.holds_tied_plain_at .later [] [.data, .data, .data] true (true, "e23f633bfe8ac8305670f86b46180c060805d49b76f21c60884057175c2197da") false
    proved (fun _ h => by cases h) (by kernel_rfl) (fun _ h => by cases h) fnExactValueText_row_tie rfl ⟨rfl, rfl⟩ (by kernel_rfl) rfl
    (fun f fn hf hfn => by
      obtain rfl : f = 5 := Option.some.inj ((show Tryd.prog.funcNamed Rows.fnExactValueTextRow.func = some 5 by kernel_rfl).symm.trans hf) |>.symm
      obtain rfl : fn = Tryd.f5 := (Option.some.inj (Tryd.func5.symm.trans hfn)).symm
      exact ⟨by kernel_rfl, fun j t ht => by
        rw [Tryd.params5] at ht
        have hm : t ∈ [36, 39] := by simpa using Array.mem_of_getElem? ht
        have hall : ([36, 39].all fun u => !Tryd.prog.wantsStandIn u) = true := by kernel_rfl
        exact (show Tryd.prog.wantsStandIn t = false by simpa using List.all_eq_true.1 hall t hm)⟩)
    (by kernel_rfl)

end Go.Proofs.YtdgmlakgnbmbbaaDoor.fnExactValueText
namespace Go.Proofs.YtdgmlakgnbmbbaaDoor
theorem fnExactValueText_holds : Rows.FnExactValueTextCardSaid := fnExactValueText.carded
end Go.Proofs.YtdgmlakgnbmbbaaDoor
