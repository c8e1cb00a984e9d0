-- FROM THE KIT's PRINTED WORDS: those that this claim's texts name
import Derived.Test.YtapgfamppnhnmaaWInv
import Derived.Test.YtapgfamppnhnmaaWFootNe
namespace Go.Proofs.YtapgfamppnhnmaaW.PrintWords
open Go.RowKit
end Go.Proofs.YtapgfamppnhnmaaW.PrintWords
namespace Go.Proofs.YtapgfamppnhnmaaW.PrintLast
section
variable {ops : Array Oper} {a : Act} {o og : Oper} {g : Nat} {t : Tmp} {u : Bool}
end
end Go.Proofs.YtapgfamppnhnmaaW.PrintLast
