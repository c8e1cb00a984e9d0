/-
  DERIVED. GIVEN WITH THE SEED: THE CARDS: each row of YthgdmdabdlgliaaDoorRows.lean that lists a variable, with what it lists TIED to the program's text (the seventh form; the later family's looks); each row that meets fmt, with fmt's text TOLD by the authors' own Lean function (tested against real Go, not proved from fmt's source: count such statements apart). THE CARD IS WHAT COUNTS. Prove the row's statement (the work); the ties are given (YthgdmdabdlgliaaDoorTie.lean); close each card by the builder's one call (the guide's Derived/Test/ToyasCard.lean, 'card_holds'). Laid BY PROGRAM, IN A SANDBOX (cutbox-door.mjs). By AI agents, Wed Nov 11 2026. No macro, syntax, notation, axiom, sorry.
-/
import Derived.Test.YthgdmdabdlgliaaDoorRows
import GoSem.ClaimSeven
namespace Go.Proofs.YthgdmdabdlgliaaDoor
namespace Rows

/-- THE TIED CARD OF 'laws.FnExactExpText'. -/
def fnExactExpTextCard : Claim7 := { stood := { row := fnExactExpTextRow, standIns := [], harness := (true, "57efcc7cdaa1f662855ae0d0dae19fc7c59783a0138b3a6c9413b54363023d25"), looks := false }, kinds := [], alts := [], laidByText := true, laidKinds := [.data, .data, .data, .data, .pinned], laidTests := true, laidLooks := .later }
def FnExactExpTextCardSaid : Prop := Claim7.holds Tryd.pinned (.plain (OpenSpec.ofChange fnExactExpTextSpec)) fnExactExpTextCard

/-- THE TIED CARD OF 'laws.FnValue'. -/
def fnValueCard : Claim7 := { stood := { row := fnValueRow, standIns := [], harness := (true, "57efcc7cdaa1f662855ae0d0dae19fc7c59783a0138b3a6c9413b54363023d25"), looks := false }, kinds := [], alts := [], laidByText := true, laidKinds := [.data, .data, .data, .data, .pinned], laidTests := true, laidLooks := .later }
def FnValueCardSaid : Prop := Claim7.holds Tryd.pinned (.plain (OpenSpec.ofChange fnValueSpec)) fnValueCard

/-- THE TIED CARD OF 'laws.FnExactBagText'. -/
def fnExactBagTextCard : Claim7 := { stood := { row := fnExactBagTextRow, standIns := [], harness := (true, "57efcc7cdaa1f662855ae0d0dae19fc7c59783a0138b3a6c9413b54363023d25"), looks := false }, kinds := [], alts := [], laidByText := true, laidKinds := [.data, .data, .data, .data, .pinned], laidTests := true, laidLooks := .later }
def FnExactBagTextCardSaid : Prop := Claim7.holds Tryd.pinned (.plain (OpenSpec.ofChange fnExactBagTextSpec)) fnExactBagTextCard

/-- THE TIED CARD OF 'laws.FnExactPlanText'. -/
def fnExactPlanTextCard : Claim7 := { stood := { row := fnExactPlanTextRow, standIns := [], harness := (true, "57efcc7cdaa1f662855ae0d0dae19fc7c59783a0138b3a6c9413b54363023d25"), looks := false }, kinds := [], alts := [], laidByText := true, laidKinds := [.data, .data, .data, .data, .pinned], laidTests := true, laidLooks := .later }
def FnExactPlanTextCardSaid : Prop := Claim7.holds Tryd.pinned (.plain (OpenSpec.ofChange fnExactPlanTextSpec)) fnExactPlanTextCard

/-- THE SECOND FORM's CARD OF 'laws.FnExactExpText'. -/
def fnExactExpTextUptoCard : Claim7 := { stood := { row := fnExactExpTextUptoRow, standIns := [], harness := (true, "57efcc7cdaa1f662855ae0d0dae19fc7c59783a0138b3a6c9413b54363023d25"), looks := false }, kinds := [], alts := [], laidByText := true, laidKinds := [.data, .data, .data, .data, .pinned], laidTests := true, laidLooks := .later }
def FnExactExpTextUptoCardSaid : Prop := Claim7.holds Tryd.pinned (.plain (OpenSpec.upto fnExactExpTextSpec)) fnExactExpTextUptoCard

/-- THE SECOND FORM's CARD OF 'laws.FnValue'. -/
def fnValueUptoCard : Claim7 := { stood := { row := fnValueUptoRow, standIns := [], harness := (true, "57efcc7cdaa1f662855ae0d0dae19fc7c59783a0138b3a6c9413b54363023d25"), looks := false }, kinds := [], alts := [], laidByText := true, laidKinds := [.data, .data, .data, .data, .pinned], laidTests := true, laidLooks := .later }
def FnValueUptoCardSaid : Prop := Claim7.holds Tryd.pinned (.plain (OpenSpec.upto fnValueSpec)) fnValueUptoCard

/-- THE SECOND FORM's CARD OF 'laws.FnExactBagText'. -/
def fnExactBagTextUptoCard : Claim7 := { stood := { row := fnExactBagTextUptoRow, standIns := [], harness := (true, "57efcc7cdaa1f662855ae0d0dae19fc7c59783a0138b3a6c9413b54363023d25"), looks := false }, kinds := [], alts := [], laidByText := true, laidKinds := [.data, .data, .data, .data, .pinned], laidTests := true, laidLooks := .later }
def FnExactBagTextUptoCardSaid : Prop := Claim7.holds Tryd.pinned (.plain (OpenSpec.upto fnExactBagTextSpec)) fnExactBagTextUptoCard

/-- THE SECOND FORM's CARD OF 'laws.FnExactPlanText'. -/
def fnExactPlanTextUptoCard : Claim7 := { stood := { row := fnExactPlanTextUptoRow, standIns := [], harness := (true, "57efcc7cdaa1f662855ae0d0dae19fc7c59783a0138b3a6c9413b54363023d25"), looks := false }, kinds := [], alts := [], laidByText := true, laidKinds := [.data, .data, .data, .data, .pinned], laidTests := true, laidLooks := .later }
def FnExactPlanTextUptoCardSaid : Prop := Claim7.holds Tryd.pinned (.plain (OpenSpec.upto fnExactPlanTextSpec)) fnExactPlanTextUptoCard
end Rows
end Go.Proofs.YthgdmdabdlgliaaDoor
