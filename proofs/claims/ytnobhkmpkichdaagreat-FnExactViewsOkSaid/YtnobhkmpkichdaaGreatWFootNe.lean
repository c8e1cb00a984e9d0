-- FROM THE KIT's PRINTED WORDS: those that this claim's texts name
import Derived.Test.YtnobhkmpkichdaaGreatWN
namespace Go.Proofs.YtnobhkmpkichdaaGreatW.PrintWords
open Go.RowKit
namespace Kd
section
variable {α : Type} {d : Kd α} {W : World} {g n : Nat} {S ok : Nat → Prop} {A : Option Addr} {ad : Addr} {xs : List α}
end
end Kd
end Go.Proofs.YtnobhkmpkichdaaGreatW.PrintWords
