-- FROM THE KIT's PRINTED WORDS: those that this claim's texts name
import Derived.Test.YtnobhkmpkichdaaGreatWTab
namespace Go.Proofs.YtnobhkmpkichdaaGreatW.PrintLast
section
variable {P : Program} {ops : Array Oper} {Q : Exit → Act → World → Prop} {md : Region.Mode} {T : Bool × List (List Nat × List Nat)} {B : List Nat} {O : List Nat} {b : Nat → Bool} {i j n : Nat}
end
end Go.Proofs.YtnobhkmpkichdaaGreatW.PrintLast
