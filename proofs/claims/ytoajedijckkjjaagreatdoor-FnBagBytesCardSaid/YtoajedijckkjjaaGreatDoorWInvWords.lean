-- FROM THE KIT's PRINTED WORDS: those that this claim's texts name
import Derived.Test.YtoajedijckkjjaaGreatDoorWInv
import Derived.Test.YtoajedijckkjjaaGreatDoorWFootNe
namespace Go.Proofs.YtoajedijckkjjaaGreatDoorW.PrintWords
open Go.RowKit
end Go.Proofs.YtoajedijckkjjaaGreatDoorW.PrintWords
namespace Go.Proofs.YtoajedijckkjjaaGreatDoorW.PrintLast
section
variable {ops : Array Oper} {a : Act} {o og : Oper} {g : Nat} {t : Tmp} {u : Bool}
end
end Go.Proofs.YtoajedijckkjjaaGreatDoorW.PrintLast
