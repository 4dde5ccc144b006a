/-
  No cell of these rows narrows 'for every input' (looked for: loops, veiled, ifaces, maps, wideKeys, modest, calm, conditions, laid).
  DERIVED. THE GIVEN ROWS OF THIS SEAT. 5 by the template 'for every input the law returns true; each argument reads behind the call as it read before'; 0 by the template 'total and deterministic' (their statements: YtkdkmpbdpniccaaTotals.lean).
  GIVEN WITH THE SEED: the statements are not yours to turn. If you find one false, say at which input.
  Laid BY PROGRAM, IN A SANDBOX (cutbox-rows.mjs): the forced cells as the released guide's own fill.sh prints them over the translation 1c184f84e28ee389… (all of the seat's roots in one cut). By AI agents, Wed Nov 11 2026. No macro, syntax, notation, axiom, sorry.
-/
import Derived.Test.YtkdkmpbdpniccaaChecked
import GoSem.Claim
import GoSem.ClaimJoined
import GoSem.ClaimMapViews
import Derived.JoinedTies
import Derived.KernelRfl
namespace Go.Proofs.Ytkdkmpbdpniccaa
/- THE CELL 'sum', in the pinned program and in every row, IS THE sha256 OF THE DUMP (.gsa) THAT YtkdkmpbdpniccaaProg.lean LOADS. Nothing in Lean hashes anything: it is a label: what it is worth is what the hold of that sum in a sandbox is worth. -/
noncomputable def Try.pinned : Pinned := { name := "ytkdkmpbdpniccaa", sum := "1c184f84e28ee389aacaf031efbc082762ce74640b212d3817f3f9b59be8de68", checked := Try.checked }
namespace Rows
def none {H : Type} : Left H := { results := [], args := [] }

/-- 'laws.FnExactConstants': WHATEVER THE INPUT: true; the input reads as it did. -/
def fnExactConstantsSpec : ChangeSpec := { name := "fnExactConstants", fn := fun _ => fun
  | [] => { results := [.lit (.bool true)], args := [] }
  | _ => none }
def fnExactConstantsRow : OpenClaim := { program := "ytkdkmpbdpniccaa", sum := "1c184f84e28ee389aacaf031efbc082762ce74640b212d3817f3f9b59be8de68", func := "loop.example/heirlooms/laws.FnExactConstants", spec := "fnExactConstants", apart := false }
def FnExactConstantsSaid : Prop := fnExactConstantsRow.holds Try.pinned (OpenSpec.ofChange fnExactConstantsSpec)

/-- ITS FALSE NEIGHBOUR: 'it returns false'. Refute it at one input. -/
def fnExactConstantsWrong : ChangeSpec := { name := "fnExactConstants", fn := fun _ => fun
  | [] => { results := [.lit (.bool false)], args := [] }
  | _ => none }
def FnExactConstantsWrongFalsely : Prop := fnExactConstantsRow.holds Try.pinned (OpenSpec.ofChange fnExactConstantsWrong)

/-- 'laws.FnExactShapeLent': WHATEVER THE INPUT: true; the input reads as it did. -/
def fnExactShapeLentSpec : ChangeSpec := { name := "fnExactShapeLent", fn := fun _ => fun
  | [d1, d2] => { results := [.lit (.bool true)], args := [d1, d2] }
  | _ => none }
def fnExactShapeLentRow : OpenClaim := { program := "ytkdkmpbdpniccaa", sum := "1c184f84e28ee389aacaf031efbc082762ce74640b212d3817f3f9b59be8de68", func := "loop.example/heirlooms/laws.FnExactShapeLent", spec := "fnExactShapeLent", apart := false }
def FnExactShapeLentSaid : Prop := fnExactShapeLentRow.holds Try.pinned (OpenSpec.ofChange fnExactShapeLentSpec)

/-- ITS FALSE NEIGHBOUR: 'it returns false'. Refute it at one input. -/
def fnExactShapeLentWrong : ChangeSpec := { name := "fnExactShapeLent", fn := fun _ => fun
  | [d1, d2] => { results := [.lit (.bool false)], args := [d1, d2] }
  | _ => none }
def FnExactShapeLentWrongFalsely : Prop := fnExactShapeLentRow.holds Try.pinned (OpenSpec.ofChange fnExactShapeLentWrong)

/-- 'laws.FnExactShapeWritten': WHATEVER THE INPUT: true; the input reads as it did. -/
def fnExactShapeWrittenSpec : ChangeSpec := { name := "fnExactShapeWritten", fn := fun _ => fun
  | [d1, d2] => { results := [.lit (.bool true)], args := [d1, d2] }
  | _ => none }
def fnExactShapeWrittenRow : OpenClaim := { program := "ytkdkmpbdpniccaa", sum := "1c184f84e28ee389aacaf031efbc082762ce74640b212d3817f3f9b59be8de68", func := "loop.example/heirlooms/laws.FnExactShapeWritten", spec := "fnExactShapeWritten", apart := false }
def FnExactShapeWrittenSaid : Prop := fnExactShapeWrittenRow.holds Try.pinned (OpenSpec.ofChange fnExactShapeWrittenSpec)

/-- ITS FALSE NEIGHBOUR: 'it returns false'. Refute it at one input. -/
def fnExactShapeWrittenWrong : ChangeSpec := { name := "fnExactShapeWritten", fn := fun _ => fun
  | [d1, d2] => { results := [.lit (.bool false)], args := [d1, d2] }
  | _ => none }
def FnExactShapeWrittenWrongFalsely : Prop := fnExactShapeWrittenRow.holds Try.pinned (OpenSpec.ofChange fnExactShapeWrittenWrong)

/-- 'laws.FnExactShapeSame': WHATEVER THE INPUT: true; the input reads as it did. -/
def fnExactShapeSameSpec : ChangeSpec := { name := "fnExactShapeSame", fn := fun _ => fun
  | [d1, d2] => { results := [.lit (.bool true)], args := [d1, d2] }
  | _ => none }
def fnExactShapeSameRow : OpenClaim := { program := "ytkdkmpbdpniccaa", sum := "1c184f84e28ee389aacaf031efbc082762ce74640b212d3817f3f9b59be8de68", func := "loop.example/heirlooms/laws.FnExactShapeSame", spec := "fnExactShapeSame", unfollowed := true, recurses := true, apart := false }
def FnExactShapeSameSaid : Prop := fnExactShapeSameRow.holds Try.pinned (OpenSpec.ofChange fnExactShapeSameSpec)

/-- ITS FALSE NEIGHBOUR: 'it returns false'. Refute it at one input. -/
def fnExactShapeSameWrong : ChangeSpec := { name := "fnExactShapeSame", fn := fun _ => fun
  | [d1, d2] => { results := [.lit (.bool false)], args := [d1, d2] }
  | _ => none }
def FnExactShapeSameWrongFalsely : Prop := fnExactShapeSameRow.holds Try.pinned (OpenSpec.ofChange fnExactShapeSameWrong)

/-- 'laws.FnExactFuncPlace': WHATEVER THE INPUT: true; the input reads as it did. -/
def fnExactFuncPlaceSpec : ChangeSpec := { name := "fnExactFuncPlace", fn := fun _ => fun
  | [d1, d2] => { results := [.lit (.bool true)], args := [d1, d2] }
  | _ => none }
def fnExactFuncPlaceRow : OpenClaim := { program := "ytkdkmpbdpniccaa", sum := "1c184f84e28ee389aacaf031efbc082762ce74640b212d3817f3f9b59be8de68", func := "loop.example/heirlooms/laws.FnExactFuncPlace", spec := "fnExactFuncPlace", apart := false }
def FnExactFuncPlaceSaid : Prop := fnExactFuncPlaceRow.holds Try.pinned (OpenSpec.ofChange fnExactFuncPlaceSpec)

/-- ITS FALSE NEIGHBOUR: 'it returns false'. Refute it at one input. -/
def fnExactFuncPlaceWrong : ChangeSpec := { name := "fnExactFuncPlace", fn := fun _ => fun
  | [d1, d2] => { results := [.lit (.bool false)], args := [d1, d2] }
  | _ => none }
def FnExactFuncPlaceWrongFalsely : Prop := fnExactFuncPlaceRow.holds Try.pinned (OpenSpec.ofChange fnExactFuncPlaceWrong)

/- THE SECOND FORM. 'bulk': how many values and letters a reading holds, each counted each time it is reached (what is shared counts as often as it is met; a slice's spare places count too). A statement '..UptoSaid' is the law's where the arguments, and the package variables that the reading takes, are together of bulk at most 1048576: NARROWER than '..Said'. Prove '..Said' where nothing that the law and all that it calls make is longer than what came in: it says more and counts as full. Else prove '..UptoSaid'. A law counts once. -/
mutual
def uptoBulk {H : Type} : DataW H → Nat
  | .lit (.string bytes) => bytes.length + 1
  | .lit _ => 1
  | .nil => 1
  | .ptr d => uptoBulk d + 1
  | .slice elems spare => uptoBulkAll elems + uptoBulkAll spare + 1
  | .agg parts => uptoBulkAll parts + 1
  | .iface _ d => uptoBulk d + 1
  | .map entries => uptoBulkEntries entries + 1
  | .held _ => 1
def uptoBulkAll {H : Type} : List (DataW H) → Nat
  | [] => 0
  | d :: r => uptoBulk d + uptoBulkAll r
def uptoBulkEntries {H : Type} : List (Lit × DataW H) → Nat
  | [] => 0
  | x :: r => uptoBulkEntry x + uptoBulkEntries r
def uptoBulkEntry {H : Type} : Lit × DataW H → Nat
  | (.string bytes, d) => bytes.length + uptoBulk d + 1
  | (_, d) => uptoBulk d + 1
 end
def uptoSmall : (H : Type) → List (DataW H) → Bool := fun _ ds => decide (uptoBulkAll ds ≤ 1048576)
def OpenSpec.upto (s : _root_.Go.ChangeSpec) : _root_.Go.OpenSpec := { _root_.Go.OpenSpec.ofChange s with cond := some uptoSmall }

/-- 'laws.FnExactConstants', WHERE WHAT IT READS IS OF BULK AT MOST 1048576: true; the input reads as it did. -/
def fnExactConstantsUptoRow : OpenClaim := { program := "ytkdkmpbdpniccaa", sum := "1c184f84e28ee389aacaf031efbc082762ce74640b212d3817f3f9b59be8de68", func := "loop.example/heirlooms/laws.FnExactConstants", spec := "fnExactConstants", apart := false, narrowed := true }
def FnExactConstantsUptoSaid : Prop := fnExactConstantsUptoRow.holds Try.pinned (OpenSpec.upto fnExactConstantsSpec)

/-- 'laws.FnExactShapeLent', WHERE WHAT IT READS IS OF BULK AT MOST 1048576: true; the input reads as it did. -/
def fnExactShapeLentUptoRow : OpenClaim := { program := "ytkdkmpbdpniccaa", sum := "1c184f84e28ee389aacaf031efbc082762ce74640b212d3817f3f9b59be8de68", func := "loop.example/heirlooms/laws.FnExactShapeLent", spec := "fnExactShapeLent", apart := false, narrowed := true }
def FnExactShapeLentUptoSaid : Prop := fnExactShapeLentUptoRow.holds Try.pinned (OpenSpec.upto fnExactShapeLentSpec)

/-- 'laws.FnExactShapeWritten', WHERE WHAT IT READS IS OF BULK AT MOST 1048576: true; the input reads as it did. -/
def fnExactShapeWrittenUptoRow : OpenClaim := { program := "ytkdkmpbdpniccaa", sum := "1c184f84e28ee389aacaf031efbc082762ce74640b212d3817f3f9b59be8de68", func := "loop.example/heirlooms/laws.FnExactShapeWritten", spec := "fnExactShapeWritten", apart := false, narrowed := true }
def FnExactShapeWrittenUptoSaid : Prop := fnExactShapeWrittenUptoRow.holds Try.pinned (OpenSpec.upto fnExactShapeWrittenSpec)

/-- 'laws.FnExactShapeSame', WHERE WHAT IT READS IS OF BULK AT MOST 1048576: true; the input reads as it did. -/
def fnExactShapeSameUptoRow : OpenClaim := { program := "ytkdkmpbdpniccaa", sum := "1c184f84e28ee389aacaf031efbc082762ce74640b212d3817f3f9b59be8de68", func := "loop.example/heirlooms/laws.FnExactShapeSame", spec := "fnExactShapeSame", unfollowed := true, recurses := true, apart := false, narrowed := true }
def FnExactShapeSameUptoSaid : Prop := fnExactShapeSameUptoRow.holds Try.pinned (OpenSpec.upto fnExactShapeSameSpec)

/-- 'laws.FnExactFuncPlace', WHERE WHAT IT READS IS OF BULK AT MOST 1048576: true; the input reads as it did. -/
def fnExactFuncPlaceUptoRow : OpenClaim := { program := "ytkdkmpbdpniccaa", sum := "1c184f84e28ee389aacaf031efbc082762ce74640b212d3817f3f9b59be8de68", func := "loop.example/heirlooms/laws.FnExactFuncPlace", spec := "fnExactFuncPlace", apart := false, narrowed := true }
def FnExactFuncPlaceUptoSaid : Prop := fnExactFuncPlaceUptoRow.holds Try.pinned (OpenSpec.upto fnExactFuncPlaceSpec)

end Rows
end Go.Proofs.Ytkdkmpbdpniccaa
