/-
  DERIVED. GIVEN WITH THE SEED: THE CARDS: each row of YtcdamcfklehedaaGreatDoorRows.lean that lists a variable, with what it lists TIED to the program's text (the seventh form; the later family's looks); each row that meets fmt, with fmt's text TOLD by the authors' own Lean function (tested against real Go, not proved from fmt's source: count such statements apart). THE CARD IS WHAT COUNTS. Prove the row's statement (the work); the ties are given (YtcdamcfklehedaaGreatDoorTie.lean); close each card by the builder's one call (the guide's Derived/Test/ToyasCard.lean, 'card_holds'). Laid BY PROGRAM, IN A SANDBOX (cutbox-door.mjs). By AI agents, Wed Nov 11 2026. No macro, syntax, notation, axiom, sorry.
-/
import Derived.Test.YtcdamcfklehedaaGreatDoorRows
import GoSem.ClaimSeven
namespace Go.Proofs.YtcdamcfklehedaaGreatDoor
namespace Rows

/-- THE TIED CARD OF 'laws.FnExactShapeFirst'. -/
def fnExactShapeFirstCard : Claim7 := { stood := { row := fnExactShapeFirstRow, standIns := [], harness := (true, "cbd0524a3bfb09ea1ca2bcdc03131c4941eb0ee5119124323767275e6d0c9dca"), looks := false }, kinds := [], alts := [], laidByText := true, laidKinds := [.listed, .data], laidTests := true, laidLooks := .later }
def FnExactShapeFirstCardSaid : Prop := Claim7.holds Tryz.pinned (.plain (OpenSpec.ofChange fnExactShapeFirstSpec)) fnExactShapeFirstCard

/-- THE TIED CARD OF 'laws.FnExactModuleRead'. -/
def fnExactModuleReadCard : Claim7 := { stood := { row := fnExactModuleReadRow, standIns := [], harness := (true, "cbd0524a3bfb09ea1ca2bcdc03131c4941eb0ee5119124323767275e6d0c9dca"), looks := false }, kinds := [], alts := [], laidByText := true, laidKinds := [.data, .listed, .data, .pinned], laidTests := true, laidLooks := .later }
def FnExactModuleReadCardSaid : Prop := Claim7.holds Tryz.pinned (.plain (OpenSpec.ofChange fnExactModuleReadSpec)) fnExactModuleReadCard

/-- THE SECOND FORM's CARD OF 'laws.FnExactShapeFirst'. -/
def fnExactShapeFirstUptoCard : Claim7 := { stood := { row := fnExactShapeFirstUptoRow, standIns := [], harness := (true, "cbd0524a3bfb09ea1ca2bcdc03131c4941eb0ee5119124323767275e6d0c9dca"), looks := false }, kinds := [], alts := [], laidByText := true, laidKinds := [.listed, .data], laidTests := true, laidLooks := .later }
def FnExactShapeFirstUptoCardSaid : Prop := Claim7.holds Tryz.pinned (.plain (OpenSpec.upto fnExactShapeFirstSpec)) fnExactShapeFirstUptoCard

/-- THE SECOND FORM's CARD OF 'laws.FnExactModuleRead'. -/
def fnExactModuleReadUptoCard : Claim7 := { stood := { row := fnExactModuleReadUptoRow, standIns := [], harness := (true, "cbd0524a3bfb09ea1ca2bcdc03131c4941eb0ee5119124323767275e6d0c9dca"), looks := false }, kinds := [], alts := [], laidByText := true, laidKinds := [.data, .listed, .data, .pinned], laidTests := true, laidLooks := .later }
def FnExactModuleReadUptoCardSaid : Prop := Claim7.holds Tryz.pinned (.plain (OpenSpec.upto fnExactModuleReadSpec)) fnExactModuleReadUptoCard
end Rows
end Go.Proofs.YtcdamcfklehedaaGreatDoor
