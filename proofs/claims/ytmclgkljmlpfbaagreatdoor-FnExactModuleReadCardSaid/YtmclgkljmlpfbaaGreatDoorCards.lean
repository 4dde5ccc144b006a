/-
  DERIVED. GIVEN WITH THE SEED: THE CARDS: each row of YtmclgkljmlpfbaaGreatDoorRows.lean that lists a variable, with what it lists TIED to the program's text (the seventh form; the later family's looks); each row that meets fmt, with fmt's text TOLD by the authors' own Lean function (tested against real Go, not proved from fmt's source: count such statements apart). THE CARD IS WHAT COUNTS. Prove the row's statement (the work); the ties are given (YtmclgkljmlpfbaaGreatDoorTie.lean); close each card by the builder's one call (the guide's Derived/Test/ToyasCard.lean, 'card_holds'). Laid BY PROGRAM, IN A SANDBOX (cutbox-door.mjs). By AI agents, Wed Nov 11 2026. No macro, syntax, notation, axiom, sorry.
-/
import Derived.Test.YtmclgkljmlpfbaaGreatDoorRows
import GoSem.ClaimSeven
namespace Go.Proofs.YtmclgkljmlpfbaaGreatDoor
namespace Rows

/-- THE TIED CARD OF 'laws.FnExactModuleRead'. -/
def fnExactModuleReadCard : Claim7 := { stood := { row := fnExactModuleReadRow, standIns := [], harness := (true, "467ddb92e9bb56f77ef143a7ece473a31043216e9c8e09e2f7e154763a3648bf"), looks := false }, kinds := [], alts := [], laidByText := true, laidKinds := [.data, .listed, .data, .pinned], laidTests := true, laidLooks := .later }
def FnExactModuleReadCardSaid : Prop := Claim7.holds Tryz.pinned (.plain (OpenSpec.ofChange fnExactModuleReadSpec)) fnExactModuleReadCard

/-- THE SECOND FORM's CARD OF 'laws.FnExactModuleRead'. -/
def fnExactModuleReadUptoCard : Claim7 := { stood := { row := fnExactModuleReadUptoRow, standIns := [], harness := (true, "467ddb92e9bb56f77ef143a7ece473a31043216e9c8e09e2f7e154763a3648bf"), looks := false }, kinds := [], alts := [], laidByText := true, laidKinds := [.data, .listed, .data, .pinned], laidTests := true, laidLooks := .later }
def FnExactModuleReadUptoCardSaid : Prop := Claim7.holds Tryz.pinned (.plain (OpenSpec.upto fnExactModuleReadSpec)) fnExactModuleReadUptoCard
end Rows
end Go.Proofs.YtmclgkljmlpfbaaGreatDoor
