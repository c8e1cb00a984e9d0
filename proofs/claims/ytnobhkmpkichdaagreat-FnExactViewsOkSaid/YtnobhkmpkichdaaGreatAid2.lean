/- More of the small lemmas that this session's own contracts use: every program, every numbering. -/
import Derived.Test.YtnobhkmpkichdaaGreatAid
import Derived.Sort.Grow
namespace Go.Proofs.YtnobhkmpkichdaaGreatW.PrintMore
open Go.RowKit Go.Proofs.YtnobhkmpkichdaaGreatW.PrintWords Go.Proofs.YtnobhkmpkichdaaGreatW.PrintLast
theorem aGc : ∀ a b : List UInt8, (Op.bytesLess a b || a == b) = !Op.bytesLess b a
 | [], [] => rfl
 | [], _ :: _ => rfl
 | _ :: _, [] => rfl
 | x :: a, y :: b => by
  have ih := aGc a b
  simp only [Op.bytesLess, List.cons_beq_cons]
  by_cases h : x < y
  ·have h' : ¬ y < x := fun g => by have := UInt8.lt_iff_toNat_lt.1 h; have := UInt8.lt_iff_toNat_lt.1 g; omega
   have e : ¬ y = x := fun e => by subst e; exact h' h
   simp [h, h', e]
  ·by_cases h' : y < x
   ·have e : ¬ x = y := fun e => by subst e; exact h h'
    simp [h, h', e]
   ·have e : x = y := by
     apply UInt8.toNat_inj.1
     have h1 : ¬ x.toNat < y.toNat := h
     have h2 : ¬ y.toNat < x.toNat := h'
     omega
    subst e
    simp [h, ← ih]
theorem aSa (t : TypeId) (a b : ByteArray) : binOp .geq t (.string a) (.string b) = pure (.bool !(Op.bytesLess a.toList b.toList)) := by simp [binOp, Op.stringOp]
theorem aQv (t : TypeId) (a b : ByteArray) : binOp .leq t (.string a) (.string b) = pure (.bool !(Op.bytesLess b.toList a.toList)) := by
 rw [← aGc]
 simp [binOp, Op.stringOp]
end Go.Proofs.YtnobhkmpkichdaaGreatW.PrintMore
