-- FROM THE KIT's PRINTED WORDS: those that this claim's texts name
import Derived.Test.YtnobhkmpkichdaaGreatWTab
namespace Go.Proofs.YtnobhkmpkichdaaGreatW.PrintLast
section
variable {P : Program} {ops : Array Oper} {Q : Exit → Act → World → Prop} {md : Region.Mode} {S : World → Prop} {ds : List Nat} {T : Bool × List (List Nat × List Nat)}
end
end Go.Proofs.YtnobhkmpkichdaaGreatW.PrintLast
