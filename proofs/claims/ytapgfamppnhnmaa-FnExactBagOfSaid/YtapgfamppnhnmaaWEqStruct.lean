-- FROM THE KIT's PRINTED WORDS: those that this claim's texts name
import Derived.Test.YtapgfamppnhnmaaWWords
import Derived.Laws.StructEq
namespace Go.Proofs.YtapgfamppnhnmaaW.PrintWords
open Go.RowKit
section
variable {P : Program} {d : Nat} {xs ys : Array Value} {f : Field} {fs : List Field} {a b : Value} {r s : Bool} {w : World}
end
end Go.Proofs.YtapgfamppnhnmaaW.PrintWords
