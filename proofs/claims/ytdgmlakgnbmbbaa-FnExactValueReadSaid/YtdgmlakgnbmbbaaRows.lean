/-
  NARROWER THAN 'FOR EVERY INPUT', by the rows' own cells (each row's printed sentence says how): FnExactValueOk: loops · FnExactValueSize: loops · FnExactValueCount: loops · FnExactVaultsOk: loops.
  DERIVED. THE GIVEN ROWS OF THIS SEAT. 8 by the template 'for every input the law returns true; each argument reads behind the call as it read before'; 0 by the template 'total and deterministic' (their statements: YtdgmlakgnbmbbaaTotals.lean).
  GIVEN WITH THE SEED: the statements are not yours to turn. If you find one false, say at which input.
  Laid BY PROGRAM, IN A SANDBOX (cutbox-rows.mjs): the forced cells as the released guide's own fill.sh prints them over the translation b1cf44b3bf181d30… (all of the seat's roots in one cut). By AI agents, Wed Nov 11 2026. No macro, syntax, notation, axiom, sorry.
-/
import Derived.Test.YtdgmlakgnbmbbaaChecked
import GoSem.Claim
import GoSem.ClaimJoined
import GoSem.ClaimMapViews
import Derived.JoinedTies
import Derived.KernelRfl
namespace Go.Proofs.Ytdgmlakgnbmbbaa
/- THE CELL 'sum', in the pinned program and in every row, IS THE sha256 OF THE DUMP (.gsa) THAT YtdgmlakgnbmbbaaProg.lean LOADS. Nothing in Lean hashes anything: it is a label: what it is worth is what the hold of that sum in a sandbox is worth. -/
noncomputable def Try.pinned : Pinned := { name := "ytdgmlakgnbmbbaa", sum := "b1cf44b3bf181d301e5a31bed71a3134db3c8a7f9833e7b2354afe20f60cde32", checked := Try.checked }
namespace Rows
def none {H : Type} : Left H := { results := [], args := [] }

/-- 'laws.FnValueSize': WHATEVER THE INPUT: true; the input reads as it did. -/
def fnValueSizeSpec : ChangeSpec := { name := "fnValueSize", fn := fun _ => fun
  | [d] => { results := [.lit (.bool true)], args := [d] }
  | _ => none }
def fnValueSizeRow : OpenClaim := { program := "ytdgmlakgnbmbbaa", sum := "b1cf44b3bf181d301e5a31bed71a3134db3c8a7f9833e7b2354afe20f60cde32", func := "loop.example/heirlooms/laws.FnValueSize", spec := "fnValueSize", recurses := true, apart := false }
def FnValueSizeSaid : Prop := fnValueSizeRow.holds Try.pinned (OpenSpec.ofChange fnValueSizeSpec)

/-- ITS FALSE NEIGHBOUR: 'it returns false'. Refute it at one input. -/
def fnValueSizeWrong : ChangeSpec := { name := "fnValueSize", fn := fun _ => fun
  | [d] => { results := [.lit (.bool false)], args := [d] }
  | _ => none }
def FnValueSizeWrongFalsely : Prop := fnValueSizeRow.holds Try.pinned (OpenSpec.ofChange fnValueSizeWrong)

/-- 'laws.FnValueCount': WHATEVER THE INPUT: true; the input reads as it did. -/
def fnValueCountSpec : ChangeSpec := { name := "fnValueCount", fn := fun _ => fun
  | [d] => { results := [.lit (.bool true)], args := [d] }
  | _ => none }
def fnValueCountRow : OpenClaim := { program := "ytdgmlakgnbmbbaa", sum := "b1cf44b3bf181d301e5a31bed71a3134db3c8a7f9833e7b2354afe20f60cde32", func := "loop.example/heirlooms/laws.FnValueCount", spec := "fnValueCount", recurses := true, apart := false }
def FnValueCountSaid : Prop := fnValueCountRow.holds Try.pinned (OpenSpec.ofChange fnValueCountSpec)

/-- ITS FALSE NEIGHBOUR: 'it returns false'. Refute it at one input. -/
def fnValueCountWrong : ChangeSpec := { name := "fnValueCount", fn := fun _ => fun
  | [d] => { results := [.lit (.bool false)], args := [d] }
  | _ => none }
def FnValueCountWrongFalsely : Prop := fnValueCountRow.holds Try.pinned (OpenSpec.ofChange fnValueCountWrong)

/-- 'laws.FnExactValueOk': WHATEVER THE INPUT: true; the input reads as it did. -/
def fnExactValueOkSpec : ChangeSpec := { name := "fnExactValueOk", fn := fun _ => fun
  | [d1, d2] => { results := [.lit (.bool true)], args := [d1, d2] }
  | _ => none }
def fnExactValueOkRow : OpenClaim := { program := "ytdgmlakgnbmbbaa", sum := "b1cf44b3bf181d301e5a31bed71a3134db3c8a7f9833e7b2354afe20f60cde32", func := "loop.example/heirlooms/laws.FnExactValueOk", spec := "fnExactValueOk", recurses := true, loops := true, apart := false }
def FnExactValueOkSaid : Prop := fnExactValueOkRow.holds Try.pinned (OpenSpec.ofChange fnExactValueOkSpec)

/-- ITS FALSE NEIGHBOUR: 'it returns false'. Refute it at one input. -/
def fnExactValueOkWrong : ChangeSpec := { name := "fnExactValueOk", fn := fun _ => fun
  | [d1, d2] => { results := [.lit (.bool false)], args := [d1, d2] }
  | _ => none }
def FnExactValueOkWrongFalsely : Prop := fnExactValueOkRow.holds Try.pinned (OpenSpec.ofChange fnExactValueOkWrong)

/-- 'laws.FnExactValueSize': WHATEVER THE INPUT: true; the input reads as it did. -/
def fnExactValueSizeSpec : ChangeSpec := { name := "fnExactValueSize", fn := fun _ => fun
  | [d1, d2] => { results := [.lit (.bool true)], args := [d1, d2] }
  | _ => none }
def fnExactValueSizeRow : OpenClaim := { program := "ytdgmlakgnbmbbaa", sum := "b1cf44b3bf181d301e5a31bed71a3134db3c8a7f9833e7b2354afe20f60cde32", func := "loop.example/heirlooms/laws.FnExactValueSize", spec := "fnExactValueSize", recurses := true, loops := true, apart := false }
def FnExactValueSizeSaid : Prop := fnExactValueSizeRow.holds Try.pinned (OpenSpec.ofChange fnExactValueSizeSpec)

/-- ITS FALSE NEIGHBOUR: 'it returns false'. Refute it at one input. -/
def fnExactValueSizeWrong : ChangeSpec := { name := "fnExactValueSize", fn := fun _ => fun
  | [d1, d2] => { results := [.lit (.bool false)], args := [d1, d2] }
  | _ => none }
def FnExactValueSizeWrongFalsely : Prop := fnExactValueSizeRow.holds Try.pinned (OpenSpec.ofChange fnExactValueSizeWrong)

/-- 'laws.FnExactValueCount': WHATEVER THE INPUT: true; the input reads as it did. -/
def fnExactValueCountSpec : ChangeSpec := { name := "fnExactValueCount", fn := fun _ => fun
  | [d1, d2, d3] => { results := [.lit (.bool true)], args := [d1, d2, d3] }
  | _ => none }
def fnExactValueCountRow : OpenClaim := { program := "ytdgmlakgnbmbbaa", sum := "b1cf44b3bf181d301e5a31bed71a3134db3c8a7f9833e7b2354afe20f60cde32", func := "loop.example/heirlooms/laws.FnExactValueCount", spec := "fnExactValueCount", recurses := true, loops := true, apart := false }
def FnExactValueCountSaid : Prop := fnExactValueCountRow.holds Try.pinned (OpenSpec.ofChange fnExactValueCountSpec)

/-- ITS FALSE NEIGHBOUR: 'it returns false'. Refute it at one input. -/
def fnExactValueCountWrong : ChangeSpec := { name := "fnExactValueCount", fn := fun _ => fun
  | [d1, d2, d3] => { results := [.lit (.bool false)], args := [d1, d2, d3] }
  | _ => none }
def FnExactValueCountWrongFalsely : Prop := fnExactValueCountRow.holds Try.pinned (OpenSpec.ofChange fnExactValueCountWrong)

/-- 'laws.FnVaultsOk': WHATEVER THE INPUT: true; the input reads as it did. -/
def fnVaultsOkSpec : ChangeSpec := { name := "fnVaultsOk", fn := fun _ => fun
  | [d] => { results := [.lit (.bool true)], args := [d] }
  | _ => none }
def fnVaultsOkRow : OpenClaim := { program := "ytdgmlakgnbmbbaa", sum := "b1cf44b3bf181d301e5a31bed71a3134db3c8a7f9833e7b2354afe20f60cde32", func := "loop.example/heirlooms/laws.FnVaultsOk", spec := "fnVaultsOk", unfollowed := true, recurses := true, apart := false }
def FnVaultsOkSaid : Prop := fnVaultsOkRow.holds Try.pinned (OpenSpec.ofChange fnVaultsOkSpec)

/-- ITS FALSE NEIGHBOUR: 'it returns false'. Refute it at one input. -/
def fnVaultsOkWrong : ChangeSpec := { name := "fnVaultsOk", fn := fun _ => fun
  | [d] => { results := [.lit (.bool false)], args := [d] }
  | _ => none }
def FnVaultsOkWrongFalsely : Prop := fnVaultsOkRow.holds Try.pinned (OpenSpec.ofChange fnVaultsOkWrong)

/-- 'laws.FnExactVaultsOk': WHATEVER THE INPUT: true; the input reads as it did. -/
def fnExactVaultsOkSpec : ChangeSpec := { name := "fnExactVaultsOk", fn := fun _ => fun
  | [d1, d2] => { results := [.lit (.bool true)], args := [d1, d2] }
  | _ => none }
def fnExactVaultsOkRow : OpenClaim := { program := "ytdgmlakgnbmbbaa", sum := "b1cf44b3bf181d301e5a31bed71a3134db3c8a7f9833e7b2354afe20f60cde32", func := "loop.example/heirlooms/laws.FnExactVaultsOk", spec := "fnExactVaultsOk", recurses := true, loops := true, apart := false }
def FnExactVaultsOkSaid : Prop := fnExactVaultsOkRow.holds Try.pinned (OpenSpec.ofChange fnExactVaultsOkSpec)

/-- ITS FALSE NEIGHBOUR: 'it returns false'. Refute it at one input. -/
def fnExactVaultsOkWrong : ChangeSpec := { name := "fnExactVaultsOk", fn := fun _ => fun
  | [d1, d2] => { results := [.lit (.bool false)], args := [d1, d2] }
  | _ => none }
def FnExactVaultsOkWrongFalsely : Prop := fnExactVaultsOkRow.holds Try.pinned (OpenSpec.ofChange fnExactVaultsOkWrong)

/-- 'laws.FnExactValueRead': WHATEVER THE INPUT: true; the input reads as it did. -/
def fnExactValueReadSpec : ChangeSpec := { name := "fnExactValueRead", fn := fun _ => fun
  | [d1, d2] => { results := [.lit (.bool true)], args := [d1, d2] }
  | _ => none }
def fnExactValueReadRow : OpenClaim := { program := "ytdgmlakgnbmbbaa", sum := "b1cf44b3bf181d301e5a31bed71a3134db3c8a7f9833e7b2354afe20f60cde32", func := "loop.example/heirlooms/laws.FnExactValueRead", spec := "fnExactValueRead", recurses := true, apart := false }
def FnExactValueReadSaid : Prop := fnExactValueReadRow.holds Try.pinned (OpenSpec.ofChange fnExactValueReadSpec)

/-- ITS FALSE NEIGHBOUR: 'it returns false'. Refute it at one input. -/
def fnExactValueReadWrong : ChangeSpec := { name := "fnExactValueRead", fn := fun _ => fun
  | [d1, d2] => { results := [.lit (.bool false)], args := [d1, d2] }
  | _ => none }
def FnExactValueReadWrongFalsely : Prop := fnExactValueReadRow.holds Try.pinned (OpenSpec.ofChange fnExactValueReadWrong)

/- THE SECOND FORM. 'bulk': how many values and letters a reading holds, each counted each time it is reached (what is shared counts as often as it is met; a slice's spare places count too). A statement '..UptoSaid' is the law's where the arguments, and the package variables that the reading takes, are together of bulk at most 1048576: NARROWER than '..Said'. Prove '..Said' where nothing that the law and all that it calls make is longer than what came in: it says more and counts as full. Else prove '..UptoSaid'. A law counts once. -/
mutual
def uptoBulk {H : Type} : DataW H → Nat
  | .lit (.string bytes) => bytes.length + 1
  | .lit _ => 1
  | .nil => 1
  | .ptr d => uptoBulk d + 1
  | .slice elems spare => uptoBulkAll elems + uptoBulkAll spare + 1
  | .agg parts => uptoBulkAll parts + 1
  | .iface _ d => uptoBulk d + 1
  | .map entries => uptoBulkEntries entries + 1
  | .held _ => 1
def uptoBulkAll {H : Type} : List (DataW H) → Nat
  | [] => 0
  | d :: r => uptoBulk d + uptoBulkAll r
def uptoBulkEntries {H : Type} : List (Lit × DataW H) → Nat
  | [] => 0
  | x :: r => uptoBulkEntry x + uptoBulkEntries r
def uptoBulkEntry {H : Type} : Lit × DataW H → Nat
  | (.string bytes, d) => bytes.length + uptoBulk d + 1
  | (_, d) => uptoBulk d + 1
 end
def uptoSmall : (H : Type) → List (DataW H) → Bool := fun _ ds => decide (uptoBulkAll ds ≤ 1048576)
def OpenSpec.upto (s : _root_.Go.ChangeSpec) : _root_.Go.OpenSpec := { _root_.Go.OpenSpec.ofChange s with cond := some uptoSmall }

/-- 'laws.FnValueSize', WHERE WHAT IT READS IS OF BULK AT MOST 1048576: true; the input reads as it did. -/
def fnValueSizeUptoRow : OpenClaim := { program := "ytdgmlakgnbmbbaa", sum := "b1cf44b3bf181d301e5a31bed71a3134db3c8a7f9833e7b2354afe20f60cde32", func := "loop.example/heirlooms/laws.FnValueSize", spec := "fnValueSize", recurses := true, apart := false, narrowed := true }
def FnValueSizeUptoSaid : Prop := fnValueSizeUptoRow.holds Try.pinned (OpenSpec.upto fnValueSizeSpec)

/-- 'laws.FnValueCount', WHERE WHAT IT READS IS OF BULK AT MOST 1048576: true; the input reads as it did. -/
def fnValueCountUptoRow : OpenClaim := { program := "ytdgmlakgnbmbbaa", sum := "b1cf44b3bf181d301e5a31bed71a3134db3c8a7f9833e7b2354afe20f60cde32", func := "loop.example/heirlooms/laws.FnValueCount", spec := "fnValueCount", recurses := true, apart := false, narrowed := true }
def FnValueCountUptoSaid : Prop := fnValueCountUptoRow.holds Try.pinned (OpenSpec.upto fnValueCountSpec)

/-- 'laws.FnExactValueOk', WHERE WHAT IT READS IS OF BULK AT MOST 1048576: true; the input reads as it did. -/
def fnExactValueOkUptoRow : OpenClaim := { program := "ytdgmlakgnbmbbaa", sum := "b1cf44b3bf181d301e5a31bed71a3134db3c8a7f9833e7b2354afe20f60cde32", func := "loop.example/heirlooms/laws.FnExactValueOk", spec := "fnExactValueOk", recurses := true, loops := true, apart := false, narrowed := true }
def FnExactValueOkUptoSaid : Prop := fnExactValueOkUptoRow.holds Try.pinned (OpenSpec.upto fnExactValueOkSpec)

/-- 'laws.FnExactValueSize', WHERE WHAT IT READS IS OF BULK AT MOST 1048576: true; the input reads as it did. -/
def fnExactValueSizeUptoRow : OpenClaim := { program := "ytdgmlakgnbmbbaa", sum := "b1cf44b3bf181d301e5a31bed71a3134db3c8a7f9833e7b2354afe20f60cde32", func := "loop.example/heirlooms/laws.FnExactValueSize", spec := "fnExactValueSize", recurses := true, loops := true, apart := false, narrowed := true }
def FnExactValueSizeUptoSaid : Prop := fnExactValueSizeUptoRow.holds Try.pinned (OpenSpec.upto fnExactValueSizeSpec)

/-- 'laws.FnExactValueCount', WHERE WHAT IT READS IS OF BULK AT MOST 1048576: true; the input reads as it did. -/
def fnExactValueCountUptoRow : OpenClaim := { program := "ytdgmlakgnbmbbaa", sum := "b1cf44b3bf181d301e5a31bed71a3134db3c8a7f9833e7b2354afe20f60cde32", func := "loop.example/heirlooms/laws.FnExactValueCount", spec := "fnExactValueCount", recurses := true, loops := true, apart := false, narrowed := true }
def FnExactValueCountUptoSaid : Prop := fnExactValueCountUptoRow.holds Try.pinned (OpenSpec.upto fnExactValueCountSpec)

/-- 'laws.FnVaultsOk', WHERE WHAT IT READS IS OF BULK AT MOST 1048576: true; the input reads as it did. -/
def fnVaultsOkUptoRow : OpenClaim := { program := "ytdgmlakgnbmbbaa", sum := "b1cf44b3bf181d301e5a31bed71a3134db3c8a7f9833e7b2354afe20f60cde32", func := "loop.example/heirlooms/laws.FnVaultsOk", spec := "fnVaultsOk", unfollowed := true, recurses := true, apart := false, narrowed := true }
def FnVaultsOkUptoSaid : Prop := fnVaultsOkUptoRow.holds Try.pinned (OpenSpec.upto fnVaultsOkSpec)

/-- 'laws.FnExactVaultsOk', WHERE WHAT IT READS IS OF BULK AT MOST 1048576: true; the input reads as it did. -/
def fnExactVaultsOkUptoRow : OpenClaim := { program := "ytdgmlakgnbmbbaa", sum := "b1cf44b3bf181d301e5a31bed71a3134db3c8a7f9833e7b2354afe20f60cde32", func := "loop.example/heirlooms/laws.FnExactVaultsOk", spec := "fnExactVaultsOk", recurses := true, loops := true, apart := false, narrowed := true }
def FnExactVaultsOkUptoSaid : Prop := fnExactVaultsOkUptoRow.holds Try.pinned (OpenSpec.upto fnExactVaultsOkSpec)

/-- 'laws.FnExactValueRead', WHERE WHAT IT READS IS OF BULK AT MOST 1048576: true; the input reads as it did. -/
def fnExactValueReadUptoRow : OpenClaim := { program := "ytdgmlakgnbmbbaa", sum := "b1cf44b3bf181d301e5a31bed71a3134db3c8a7f9833e7b2354afe20f60cde32", func := "loop.example/heirlooms/laws.FnExactValueRead", spec := "fnExactValueRead", recurses := true, apart := false, narrowed := true }
def FnExactValueReadUptoSaid : Prop := fnExactValueReadUptoRow.holds Try.pinned (OpenSpec.upto fnExactValueReadSpec)

end Rows
end Go.Proofs.Ytdgmlakgnbmbbaa
