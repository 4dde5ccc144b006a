/-
  No cell of these rows narrows 'for every input' (looked for: loops, veiled, ifaces, maps, wideKeys, modest, calm, conditions, laid).
  DERIVED. THE GIVEN ROWS OF THIS SEAT. 12 by the template 'for every input the law returns true; each argument reads behind the call as it read before'; 0 by the template 'total and deterministic' (their statements: YticolaohngmcfaaTotals.lean).
  GIVEN WITH THE SEED: the statements are not yours to turn. If you find one false, say at which input.
  Laid BY PROGRAM, IN A SANDBOX (cutbox-rows.mjs): the forced cells as the released guide's own fill.sh prints them over the translation 3c074fd80271bf49… (all of the seat's roots in one cut). By AI agents, Wed Nov 11 2026. No macro, syntax, notation, axiom, sorry.
-/
import Derived.Test.YticolaohngmcfaaChecked
import GoSem.Claim
import GoSem.ClaimJoined
import GoSem.ClaimMapViews
import Derived.JoinedTies
import Derived.KernelRfl
namespace Go.Proofs.Yticolaohngmcfaa
/- THE CELL 'sum', in the pinned program and in every row, IS THE sha256 OF THE DUMP (.gsa) THAT YticolaohngmcfaaProg.lean LOADS. Nothing in Lean hashes anything: it is a label: what it is worth is what the hold of that sum in a sandbox is worth. -/
noncomputable def Try.pinned : Pinned := { name := "yticolaohngmcfaa", sum := "3c074fd80271bf4900135f5ba35959c342aa8867bbb6edc75f37c833ed2623d3", checked := Try.checked }
namespace Rows
def none {H : Type} : Left H := { results := [], args := [] }

/-- 'laws.FnKindsOk': WHATEVER THE INPUT: true; the input reads as it did. -/
def fnKindsOkSpec : ChangeSpec := { name := "fnKindsOk", fn := fun _ => fun
  | [d] => { results := [.lit (.bool true)], args := [d] }
  | _ => none }
def fnKindsOkRow : OpenClaim := { program := "yticolaohngmcfaa", sum := "3c074fd80271bf4900135f5ba35959c342aa8867bbb6edc75f37c833ed2623d3", func := "loop.example/heirlooms/laws.FnKindsOk", spec := "fnKindsOk", recurses := true, apart := false }
def FnKindsOkSaid : Prop := fnKindsOkRow.holds Try.pinned (OpenSpec.ofChange fnKindsOkSpec)

/-- ITS FALSE NEIGHBOUR: 'it returns false'. Refute it at one input. -/
def fnKindsOkWrong : ChangeSpec := { name := "fnKindsOk", fn := fun _ => fun
  | [d] => { results := [.lit (.bool false)], args := [d] }
  | _ => none }
def FnKindsOkWrongFalsely : Prop := fnKindsOkRow.holds Try.pinned (OpenSpec.ofChange fnKindsOkWrong)

/-- 'laws.FnKindsBad': WHATEVER THE INPUT: true; the input reads as it did. -/
def fnKindsBadSpec : ChangeSpec := { name := "fnKindsBad", fn := fun _ => fun
  | [d] => { results := [.lit (.bool true)], args := [d] }
  | _ => none }
def fnKindsBadRow : OpenClaim := { program := "yticolaohngmcfaa", sum := "3c074fd80271bf4900135f5ba35959c342aa8867bbb6edc75f37c833ed2623d3", func := "loop.example/heirlooms/laws.FnKindsBad", spec := "fnKindsBad", recurses := true, apart := false }
def FnKindsBadSaid : Prop := fnKindsBadRow.holds Try.pinned (OpenSpec.ofChange fnKindsBadSpec)

/-- ITS FALSE NEIGHBOUR: 'it returns false'. Refute it at one input. -/
def fnKindsBadWrong : ChangeSpec := { name := "fnKindsBad", fn := fun _ => fun
  | [d] => { results := [.lit (.bool false)], args := [d] }
  | _ => none }
def FnKindsBadWrongFalsely : Prop := fnKindsBadRow.holds Try.pinned (OpenSpec.ofChange fnKindsBadWrong)

/-- 'laws.FnExactKindsBad': WHATEVER THE INPUT: true; the input reads as it did. -/
def fnExactKindsBadSpec : ChangeSpec := { name := "fnExactKindsBad", fn := fun _ => fun
  | [d] => { results := [.lit (.bool true)], args := [d] }
  | _ => none }
def fnExactKindsBadRow : OpenClaim := { program := "yticolaohngmcfaa", sum := "3c074fd80271bf4900135f5ba35959c342aa8867bbb6edc75f37c833ed2623d3", func := "loop.example/heirlooms/laws.FnExactKindsBad", spec := "fnExactKindsBad", apart := false }
def FnExactKindsBadSaid : Prop := fnExactKindsBadRow.holds Try.pinned (OpenSpec.ofChange fnExactKindsBadSpec)

/-- ITS FALSE NEIGHBOUR: 'it returns false'. Refute it at one input. -/
def fnExactKindsBadWrong : ChangeSpec := { name := "fnExactKindsBad", fn := fun _ => fun
  | [d] => { results := [.lit (.bool false)], args := [d] }
  | _ => none }
def FnExactKindsBadWrongFalsely : Prop := fnExactKindsBadRow.holds Try.pinned (OpenSpec.ofChange fnExactKindsBadWrong)

/-- 'laws.FnTypeOk': WHATEVER THE INPUT: true; the input reads as it did. -/
def fnTypeOkSpec : ChangeSpec := { name := "fnTypeOk", fn := fun _ => fun
  | [d] => { results := [.lit (.bool true)], args := [d] }
  | _ => none }
def fnTypeOkRow : OpenClaim := { program := "yticolaohngmcfaa", sum := "3c074fd80271bf4900135f5ba35959c342aa8867bbb6edc75f37c833ed2623d3", func := "loop.example/heirlooms/laws.FnTypeOk", spec := "fnTypeOk", recurses := true, apart := false }
def FnTypeOkSaid : Prop := fnTypeOkRow.holds Try.pinned (OpenSpec.ofChange fnTypeOkSpec)

/-- ITS FALSE NEIGHBOUR: 'it returns false'. Refute it at one input. -/
def fnTypeOkWrong : ChangeSpec := { name := "fnTypeOk", fn := fun _ => fun
  | [d] => { results := [.lit (.bool false)], args := [d] }
  | _ => none }
def FnTypeOkWrongFalsely : Prop := fnTypeOkRow.holds Try.pinned (OpenSpec.ofChange fnTypeOkWrong)

/-- 'laws.FnExactKindsOk': WHATEVER THE INPUT: true; the input reads as it did. -/
def fnExactKindsOkSpec : ChangeSpec := { name := "fnExactKindsOk", fn := fun _ => fun
  | [d] => { results := [.lit (.bool true)], args := [d] }
  | _ => none }
def fnExactKindsOkRow : OpenClaim := { program := "yticolaohngmcfaa", sum := "3c074fd80271bf4900135f5ba35959c342aa8867bbb6edc75f37c833ed2623d3", func := "loop.example/heirlooms/laws.FnExactKindsOk", spec := "fnExactKindsOk", apart := false }
def FnExactKindsOkSaid : Prop := fnExactKindsOkRow.holds Try.pinned (OpenSpec.ofChange fnExactKindsOkSpec)

/-- ITS FALSE NEIGHBOUR: 'it returns false'. Refute it at one input. -/
def fnExactKindsOkWrong : ChangeSpec := { name := "fnExactKindsOk", fn := fun _ => fun
  | [d] => { results := [.lit (.bool false)], args := [d] }
  | _ => none }
def FnExactKindsOkWrongFalsely : Prop := fnExactKindsOkRow.holds Try.pinned (OpenSpec.ofChange fnExactKindsOkWrong)

/-- 'laws.FnTypePlain': WHATEVER THE INPUT: true; the input reads as it did. -/
def fnTypePlainSpec : ChangeSpec := { name := "fnTypePlain", fn := fun _ => fun
  | [d] => { results := [.lit (.bool true)], args := [d] }
  | _ => none }
def fnTypePlainRow : OpenClaim := { program := "yticolaohngmcfaa", sum := "3c074fd80271bf4900135f5ba35959c342aa8867bbb6edc75f37c833ed2623d3", func := "loop.example/heirlooms/laws.FnTypePlain", spec := "fnTypePlain", recurses := true, apart := false }
def FnTypePlainSaid : Prop := fnTypePlainRow.holds Try.pinned (OpenSpec.ofChange fnTypePlainSpec)

/-- ITS FALSE NEIGHBOUR: 'it returns false'. Refute it at one input. -/
def fnTypePlainWrong : ChangeSpec := { name := "fnTypePlain", fn := fun _ => fun
  | [d] => { results := [.lit (.bool false)], args := [d] }
  | _ => none }
def FnTypePlainWrongFalsely : Prop := fnTypePlainRow.holds Try.pinned (OpenSpec.ofChange fnTypePlainWrong)

/-- 'laws.FnTypeAble': WHATEVER THE INPUT: true; the input reads as it did. -/
def fnTypeAbleSpec : ChangeSpec := { name := "fnTypeAble", fn := fun _ => fun
  | [d] => { results := [.lit (.bool true)], args := [d] }
  | _ => none }
def fnTypeAbleRow : OpenClaim := { program := "yticolaohngmcfaa", sum := "3c074fd80271bf4900135f5ba35959c342aa8867bbb6edc75f37c833ed2623d3", func := "loop.example/heirlooms/laws.FnTypeAble", spec := "fnTypeAble", recurses := true, apart := false }
def FnTypeAbleSaid : Prop := fnTypeAbleRow.holds Try.pinned (OpenSpec.ofChange fnTypeAbleSpec)

/-- ITS FALSE NEIGHBOUR: 'it returns false'. Refute it at one input. -/
def fnTypeAbleWrong : ChangeSpec := { name := "fnTypeAble", fn := fun _ => fun
  | [d] => { results := [.lit (.bool false)], args := [d] }
  | _ => none }
def FnTypeAbleWrongFalsely : Prop := fnTypeAbleRow.holds Try.pinned (OpenSpec.ofChange fnTypeAbleWrong)

/-- 'laws.FnExactTypeOk': WHATEVER THE INPUT: true; the input reads as it did. -/
def fnExactTypeOkSpec : ChangeSpec := { name := "fnExactTypeOk", fn := fun _ => fun
  | [d1, d2] => { results := [.lit (.bool true)], args := [d1, d2] }
  | _ => none }
def fnExactTypeOkRow : OpenClaim := { program := "yticolaohngmcfaa", sum := "3c074fd80271bf4900135f5ba35959c342aa8867bbb6edc75f37c833ed2623d3", func := "loop.example/heirlooms/laws.FnExactTypeOk", spec := "fnExactTypeOk", apart := false }
def FnExactTypeOkSaid : Prop := fnExactTypeOkRow.holds Try.pinned (OpenSpec.ofChange fnExactTypeOkSpec)

/-- ITS FALSE NEIGHBOUR: 'it returns false'. Refute it at one input. -/
def fnExactTypeOkWrong : ChangeSpec := { name := "fnExactTypeOk", fn := fun _ => fun
  | [d1, d2] => { results := [.lit (.bool false)], args := [d1, d2] }
  | _ => none }
def FnExactTypeOkWrongFalsely : Prop := fnExactTypeOkRow.holds Try.pinned (OpenSpec.ofChange fnExactTypeOkWrong)

/-- 'laws.FnExactTypeAble': WHATEVER THE INPUT: true; the input reads as it did. -/
def fnExactTypeAbleSpec : ChangeSpec := { name := "fnExactTypeAble", fn := fun _ => fun
  | [d1, d2] => { results := [.lit (.bool true)], args := [d1, d2] }
  | _ => none }
def fnExactTypeAbleRow : OpenClaim := { program := "yticolaohngmcfaa", sum := "3c074fd80271bf4900135f5ba35959c342aa8867bbb6edc75f37c833ed2623d3", func := "loop.example/heirlooms/laws.FnExactTypeAble", spec := "fnExactTypeAble", apart := false }
def FnExactTypeAbleSaid : Prop := fnExactTypeAbleRow.holds Try.pinned (OpenSpec.ofChange fnExactTypeAbleSpec)

/-- ITS FALSE NEIGHBOUR: 'it returns false'. Refute it at one input. -/
def fnExactTypeAbleWrong : ChangeSpec := { name := "fnExactTypeAble", fn := fun _ => fun
  | [d1, d2] => { results := [.lit (.bool false)], args := [d1, d2] }
  | _ => none }
def FnExactTypeAbleWrongFalsely : Prop := fnExactTypeAbleRow.holds Try.pinned (OpenSpec.ofChange fnExactTypeAbleWrong)

/-- 'laws.FnExactTypePlain': WHATEVER THE INPUT: true; the input reads as it did. -/
def fnExactTypePlainSpec : ChangeSpec := { name := "fnExactTypePlain", fn := fun _ => fun
  | [d1, d2] => { results := [.lit (.bool true)], args := [d1, d2] }
  | _ => none }
def fnExactTypePlainRow : OpenClaim := { program := "yticolaohngmcfaa", sum := "3c074fd80271bf4900135f5ba35959c342aa8867bbb6edc75f37c833ed2623d3", func := "loop.example/heirlooms/laws.FnExactTypePlain", spec := "fnExactTypePlain", apart := false }
def FnExactTypePlainSaid : Prop := fnExactTypePlainRow.holds Try.pinned (OpenSpec.ofChange fnExactTypePlainSpec)

/-- ITS FALSE NEIGHBOUR: 'it returns false'. Refute it at one input. -/
def fnExactTypePlainWrong : ChangeSpec := { name := "fnExactTypePlain", fn := fun _ => fun
  | [d1, d2] => { results := [.lit (.bool false)], args := [d1, d2] }
  | _ => none }
def FnExactTypePlainWrongFalsely : Prop := fnExactTypePlainRow.holds Try.pinned (OpenSpec.ofChange fnExactTypePlainWrong)

/-- 'laws.FnTypeHolds': WHATEVER THE INPUT: true; the input reads as it did. -/
def fnTypeHoldsSpec : ChangeSpec := { name := "fnTypeHolds", fn := fun _ => fun
  | [d] => { results := [.lit (.bool true)], args := [d] }
  | _ => none }
def fnTypeHoldsRow : OpenClaim := { program := "yticolaohngmcfaa", sum := "3c074fd80271bf4900135f5ba35959c342aa8867bbb6edc75f37c833ed2623d3", func := "loop.example/heirlooms/laws.FnTypeHolds", spec := "fnTypeHolds", recurses := true, apart := false }
def FnTypeHoldsSaid : Prop := fnTypeHoldsRow.holds Try.pinned (OpenSpec.ofChange fnTypeHoldsSpec)

/-- ITS FALSE NEIGHBOUR: 'it returns false'. Refute it at one input. -/
def fnTypeHoldsWrong : ChangeSpec := { name := "fnTypeHolds", fn := fun _ => fun
  | [d] => { results := [.lit (.bool false)], args := [d] }
  | _ => none }
def FnTypeHoldsWrongFalsely : Prop := fnTypeHoldsRow.holds Try.pinned (OpenSpec.ofChange fnTypeHoldsWrong)

/-- 'laws.FnExactTypeHolds': WHATEVER THE INPUT: true; the input reads as it did. -/
def fnExactTypeHoldsSpec : ChangeSpec := { name := "fnExactTypeHolds", fn := fun _ => fun
  | [d1, d2, d3] => { results := [.lit (.bool true)], args := [d1, d2, d3] }
  | _ => none }
def fnExactTypeHoldsRow : OpenClaim := { program := "yticolaohngmcfaa", sum := "3c074fd80271bf4900135f5ba35959c342aa8867bbb6edc75f37c833ed2623d3", func := "loop.example/heirlooms/laws.FnExactTypeHolds", spec := "fnExactTypeHolds", recurses := true, apart := false }
def FnExactTypeHoldsSaid : Prop := fnExactTypeHoldsRow.holds Try.pinned (OpenSpec.ofChange fnExactTypeHoldsSpec)

/-- ITS FALSE NEIGHBOUR: 'it returns false'. Refute it at one input. -/
def fnExactTypeHoldsWrong : ChangeSpec := { name := "fnExactTypeHolds", fn := fun _ => fun
  | [d1, d2, d3] => { results := [.lit (.bool false)], args := [d1, d2, d3] }
  | _ => none }
def FnExactTypeHoldsWrongFalsely : Prop := fnExactTypeHoldsRow.holds Try.pinned (OpenSpec.ofChange fnExactTypeHoldsWrong)

/- THE SECOND FORM. 'bulk': how many values and letters a reading holds, each counted each time it is reached (what is shared counts as often as it is met; a slice's spare places count too). A statement '..UptoSaid' is the law's where the arguments, and the package variables that the reading takes, are together of bulk at most 1048576: NARROWER than '..Said'. Prove '..Said' where nothing that the law and all that it calls make is longer than what came in: it says more and counts as full. Else prove '..UptoSaid'. A law counts once. -/
mutual
def uptoBulk {H : Type} : DataW H → Nat
  | .lit (.string bytes) => bytes.length + 1
  | .lit _ => 1
  | .nil => 1
  | .ptr d => uptoBulk d + 1
  | .slice elems spare => uptoBulkAll elems + uptoBulkAll spare + 1
  | .agg parts => uptoBulkAll parts + 1
  | .iface _ d => uptoBulk d + 1
  | .map entries => uptoBulkEntries entries + 1
  | .held _ => 1
def uptoBulkAll {H : Type} : List (DataW H) → Nat
  | [] => 0
  | d :: r => uptoBulk d + uptoBulkAll r
def uptoBulkEntries {H : Type} : List (Lit × DataW H) → Nat
  | [] => 0
  | x :: r => uptoBulkEntry x + uptoBulkEntries r
def uptoBulkEntry {H : Type} : Lit × DataW H → Nat
  | (.string bytes, d) => bytes.length + uptoBulk d + 1
  | (_, d) => uptoBulk d + 1
 end
def uptoSmall : (H : Type) → List (DataW H) → Bool := fun _ ds => decide (uptoBulkAll ds ≤ 1048576)
def OpenSpec.upto (s : _root_.Go.ChangeSpec) : _root_.Go.OpenSpec := { _root_.Go.OpenSpec.ofChange s with cond := some uptoSmall }

/-- 'laws.FnKindsOk', WHERE WHAT IT READS IS OF BULK AT MOST 1048576: true; the input reads as it did. -/
def fnKindsOkUptoRow : OpenClaim := { program := "yticolaohngmcfaa", sum := "3c074fd80271bf4900135f5ba35959c342aa8867bbb6edc75f37c833ed2623d3", func := "loop.example/heirlooms/laws.FnKindsOk", spec := "fnKindsOk", recurses := true, apart := false, narrowed := true }
def FnKindsOkUptoSaid : Prop := fnKindsOkUptoRow.holds Try.pinned (OpenSpec.upto fnKindsOkSpec)

/-- 'laws.FnKindsBad', WHERE WHAT IT READS IS OF BULK AT MOST 1048576: true; the input reads as it did. -/
def fnKindsBadUptoRow : OpenClaim := { program := "yticolaohngmcfaa", sum := "3c074fd80271bf4900135f5ba35959c342aa8867bbb6edc75f37c833ed2623d3", func := "loop.example/heirlooms/laws.FnKindsBad", spec := "fnKindsBad", recurses := true, apart := false, narrowed := true }
def FnKindsBadUptoSaid : Prop := fnKindsBadUptoRow.holds Try.pinned (OpenSpec.upto fnKindsBadSpec)

/-- 'laws.FnExactKindsBad', WHERE WHAT IT READS IS OF BULK AT MOST 1048576: true; the input reads as it did. -/
def fnExactKindsBadUptoRow : OpenClaim := { program := "yticolaohngmcfaa", sum := "3c074fd80271bf4900135f5ba35959c342aa8867bbb6edc75f37c833ed2623d3", func := "loop.example/heirlooms/laws.FnExactKindsBad", spec := "fnExactKindsBad", apart := false, narrowed := true }
def FnExactKindsBadUptoSaid : Prop := fnExactKindsBadUptoRow.holds Try.pinned (OpenSpec.upto fnExactKindsBadSpec)

/-- 'laws.FnTypeOk', WHERE WHAT IT READS IS OF BULK AT MOST 1048576: true; the input reads as it did. -/
def fnTypeOkUptoRow : OpenClaim := { program := "yticolaohngmcfaa", sum := "3c074fd80271bf4900135f5ba35959c342aa8867bbb6edc75f37c833ed2623d3", func := "loop.example/heirlooms/laws.FnTypeOk", spec := "fnTypeOk", recurses := true, apart := false, narrowed := true }
def FnTypeOkUptoSaid : Prop := fnTypeOkUptoRow.holds Try.pinned (OpenSpec.upto fnTypeOkSpec)

/-- 'laws.FnExactKindsOk', WHERE WHAT IT READS IS OF BULK AT MOST 1048576: true; the input reads as it did. -/
def fnExactKindsOkUptoRow : OpenClaim := { program := "yticolaohngmcfaa", sum := "3c074fd80271bf4900135f5ba35959c342aa8867bbb6edc75f37c833ed2623d3", func := "loop.example/heirlooms/laws.FnExactKindsOk", spec := "fnExactKindsOk", apart := false, narrowed := true }
def FnExactKindsOkUptoSaid : Prop := fnExactKindsOkUptoRow.holds Try.pinned (OpenSpec.upto fnExactKindsOkSpec)

/-- 'laws.FnTypePlain', WHERE WHAT IT READS IS OF BULK AT MOST 1048576: true; the input reads as it did. -/
def fnTypePlainUptoRow : OpenClaim := { program := "yticolaohngmcfaa", sum := "3c074fd80271bf4900135f5ba35959c342aa8867bbb6edc75f37c833ed2623d3", func := "loop.example/heirlooms/laws.FnTypePlain", spec := "fnTypePlain", recurses := true, apart := false, narrowed := true }
def FnTypePlainUptoSaid : Prop := fnTypePlainUptoRow.holds Try.pinned (OpenSpec.upto fnTypePlainSpec)

/-- 'laws.FnTypeAble', WHERE WHAT IT READS IS OF BULK AT MOST 1048576: true; the input reads as it did. -/
def fnTypeAbleUptoRow : OpenClaim := { program := "yticolaohngmcfaa", sum := "3c074fd80271bf4900135f5ba35959c342aa8867bbb6edc75f37c833ed2623d3", func := "loop.example/heirlooms/laws.FnTypeAble", spec := "fnTypeAble", recurses := true, apart := false, narrowed := true }
def FnTypeAbleUptoSaid : Prop := fnTypeAbleUptoRow.holds Try.pinned (OpenSpec.upto fnTypeAbleSpec)

/-- 'laws.FnExactTypeOk', WHERE WHAT IT READS IS OF BULK AT MOST 1048576: true; the input reads as it did. -/
def fnExactTypeOkUptoRow : OpenClaim := { program := "yticolaohngmcfaa", sum := "3c074fd80271bf4900135f5ba35959c342aa8867bbb6edc75f37c833ed2623d3", func := "loop.example/heirlooms/laws.FnExactTypeOk", spec := "fnExactTypeOk", apart := false, narrowed := true }
def FnExactTypeOkUptoSaid : Prop := fnExactTypeOkUptoRow.holds Try.pinned (OpenSpec.upto fnExactTypeOkSpec)

/-- 'laws.FnExactTypeAble', WHERE WHAT IT READS IS OF BULK AT MOST 1048576: true; the input reads as it did. -/
def fnExactTypeAbleUptoRow : OpenClaim := { program := "yticolaohngmcfaa", sum := "3c074fd80271bf4900135f5ba35959c342aa8867bbb6edc75f37c833ed2623d3", func := "loop.example/heirlooms/laws.FnExactTypeAble", spec := "fnExactTypeAble", apart := false, narrowed := true }
def FnExactTypeAbleUptoSaid : Prop := fnExactTypeAbleUptoRow.holds Try.pinned (OpenSpec.upto fnExactTypeAbleSpec)

/-- 'laws.FnExactTypePlain', WHERE WHAT IT READS IS OF BULK AT MOST 1048576: true; the input reads as it did. -/
def fnExactTypePlainUptoRow : OpenClaim := { program := "yticolaohngmcfaa", sum := "3c074fd80271bf4900135f5ba35959c342aa8867bbb6edc75f37c833ed2623d3", func := "loop.example/heirlooms/laws.FnExactTypePlain", spec := "fnExactTypePlain", apart := false, narrowed := true }
def FnExactTypePlainUptoSaid : Prop := fnExactTypePlainUptoRow.holds Try.pinned (OpenSpec.upto fnExactTypePlainSpec)

/-- 'laws.FnTypeHolds', WHERE WHAT IT READS IS OF BULK AT MOST 1048576: true; the input reads as it did. -/
def fnTypeHoldsUptoRow : OpenClaim := { program := "yticolaohngmcfaa", sum := "3c074fd80271bf4900135f5ba35959c342aa8867bbb6edc75f37c833ed2623d3", func := "loop.example/heirlooms/laws.FnTypeHolds", spec := "fnTypeHolds", recurses := true, apart := false, narrowed := true }
def FnTypeHoldsUptoSaid : Prop := fnTypeHoldsUptoRow.holds Try.pinned (OpenSpec.upto fnTypeHoldsSpec)

/-- 'laws.FnExactTypeHolds', WHERE WHAT IT READS IS OF BULK AT MOST 1048576: true; the input reads as it did. -/
def fnExactTypeHoldsUptoRow : OpenClaim := { program := "yticolaohngmcfaa", sum := "3c074fd80271bf4900135f5ba35959c342aa8867bbb6edc75f37c833ed2623d3", func := "loop.example/heirlooms/laws.FnExactTypeHolds", spec := "fnExactTypeHolds", recurses := true, apart := false, narrowed := true }
def FnExactTypeHoldsUptoSaid : Prop := fnExactTypeHoldsUptoRow.holds Try.pinned (OpenSpec.upto fnExactTypeHoldsSpec)

end Rows
end Go.Proofs.Yticolaohngmcfaa
