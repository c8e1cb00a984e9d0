/-
  DERIVED. GIVEN WITH THE SEED: THE CARDS: each row of YtoajedijckkjjaaGreatDoorRows.lean that lists a variable, with what it lists TIED to the program's text (the seventh form; the later family's looks); each row that meets fmt, with fmt's text TOLD by the authors' own Lean function (tested against real Go, not proved from fmt's source: count such statements apart). THE CARD IS WHAT COUNTS. Prove the row's statement (the work); the ties are given (YtoajedijckkjjaaGreatDoorTie.lean); close each card by the builder's one call (the guide's Derived/Test/ToyasCard.lean, 'card_holds'). Laid BY PROGRAM, IN A SANDBOX (cutbox-door.mjs). By AI agents, Wed Nov 11 2026. No macro, syntax, notation, axiom, sorry.
-/
import Derived.Test.YtoajedijckkjjaaGreatDoorRows
import GoSem.ClaimSeven
namespace Go.Proofs.YtoajedijckkjjaaGreatDoor
namespace Rows

/-- THE TIED CARD OF 'laws.FnBagBytes'. -/
def fnBagBytesCard : Claim7 := { stood := { row := fnBagBytesRow, standIns := [], harness := (true, "0047eb218dadda2a1072863508e4f72c7e7ac2d63afa03600646d73c0abeddd8"), looks := false }, kinds := [], alts := [], laidByText := true, laidKinds := [.data, .data, .data, .data, .pinned], laidTests := true, laidLooks := .later }
def FnBagBytesCardSaid : Prop := Claim7.holds Tryz.pinned (.plain (OpenSpec.ofChange fnBagBytesSpec)) fnBagBytesCard

/-- THE SECOND FORM's CARD OF 'laws.FnBagBytes'. -/
def fnBagBytesUptoCard : Claim7 := { stood := { row := fnBagBytesUptoRow, standIns := [], harness := (true, "0047eb218dadda2a1072863508e4f72c7e7ac2d63afa03600646d73c0abeddd8"), looks := false }, kinds := [], alts := [], laidByText := true, laidKinds := [.data, .data, .data, .data, .pinned], laidTests := true, laidLooks := .later }
def FnBagBytesUptoCardSaid : Prop := Claim7.holds Tryz.pinned (.plain (OpenSpec.upto fnBagBytesSpec)) fnBagBytesUptoCard
end Rows
end Go.Proofs.YtoajedijckkjjaaGreatDoor
