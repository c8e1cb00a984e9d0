-- FROM THE KIT's PRINTED WORDS: those that this claim's texts name
import Derived.Test.YtnobhkmpkichdaaGreatWInv
import Derived.Test.YtnobhkmpkichdaaGreatWFootNe
namespace Go.Proofs.YtnobhkmpkichdaaGreatW.PrintWords
open Go.RowKit
end Go.Proofs.YtnobhkmpkichdaaGreatW.PrintWords
namespace Go.Proofs.YtnobhkmpkichdaaGreatW.PrintLast
section
variable {ops : Array Oper} {a : Act} {o og : Oper} {g : Nat} {t : Tmp} {u : Bool}
end
end Go.Proofs.YtnobhkmpkichdaaGreatW.PrintLast
