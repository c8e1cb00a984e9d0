/- Short words of the third pressing. -/
import Derived.Test.YtnobhkmpkichdaaGreatPress
import Derived.Test.YtnobhkmpkichdaaGreatWMore
namespace Go.Proofs.YtnobhkmpkichdaaGreatW.PrintLast
open Go.RowKit Go.Proofs.YtnobhkmpkichdaaGreatW.PrintWords
theorem n3_ {α : Type} {d : Kd α} {e : Nat} {W0 W : World} {base : Nat} {ok : Nat → Prop} {v : Value} {xs : List α} (x : Kd.N d e W0 base ok v xs) (h : Ext W0 W := by repeat (first | with_reducible exact Ext.refl | with_reducible apply Ext.alloc | with_reducible apply Ext.drewN | with_reducible apply Ext.drew | exact Ext.refl)) : Kd.N d e W base ok v xs := by
 induction h with
 | refl => exact x
 | alloc _ o ih => exact Kd.aVv ih o
 | drewN _ m ih => exact Kd.aWe ih m
 | drew _ ih => exact Kd.aWy ih
theorem v3_ {α : Type} {d : Kd α} {e : Nat} {W0 W : World} {base : Nat} {ok : Nat → Prop} {v : Value} {xs : List α} (x : Kd.V d e W0 base ok v xs) (h : Ext W0 W := by repeat (first | with_reducible exact Ext.refl | with_reducible apply Ext.alloc | with_reducible apply Ext.drewN | with_reducible apply Ext.drew | exact Ext.refl)) : Kd.V d e W base ok v xs := by
 induction h with
 | refl => exact x
 | alloc _ o ih => exact Kd.aHq ih o
 | drewN _ m ih => exact Kd.aHr ih m
 | drew _ ih => exact Kd.aHx ih
theorem r3_ {α : Type} {d : Kd α} {e : Nat} {W0 W : World} {base : Nat} {ok : Nat → Prop} {v : Value} {xs : List α} (x : Kd.R d e W0 base ok v xs) (h : Ext W0 W := by repeat (first | with_reducible exact Ext.refl | with_reducible apply Ext.alloc | with_reducible apply Ext.drewN | with_reducible apply Ext.drew | exact Ext.refl)) : Kd.R d e W base ok v xs := by
 induction h with
 | refl => exact x
 | alloc _ o ih => exact Kd.aBf ih o
 | drewN _ m ih => exact Kd.aBg ih m
 | drew _ ih => exact Kd.aBi ih
theorem aCm {P : Program} {ops : Array Oper} {Q : Exit → Act → World → Prop} {md : Region.Mode} {S : World → Prop} {ds : List Nat} {i : Nat} {N : Option Tmp} {oi : Oper} {fuel : Nat} {l : Array Bool} {a : Act} {w : World} (l' : Array Bool) (hi : ops[i]? = some oi := by rfl) (hN : oi.dst = N := by rfl) (hc : aKn md ops l l' i = true := by exact aWu HT_.out (by kernel_rfl)) (hd : i ∉ ds := by decide)
 (h : ∀ K : Act → World → Prop, Shut (∀ a' w', S w' → (S w' → aAq P md ops Q S ds fuel l' a' w') → K a' w') → if Region.wanted oi (yielded ops a.tmps) = true then Oper.wp P oi a w K Q else K (a.put N undef) w) : aAq P md ops Q S ds (fuel + 1) l a w := aYa l' hi hN hc hd h
theorem nn_ {α : Type} {b : α} {p : Prop} (h : (none : Option α) = some b) : p := by cases h
theorem rr_ {α : Type} {a b : α} (h : a = b := by first | rfl | (simp [aBo, aBq] <;> rfl) | (simp [*, aBo, aBq] <;> rfl)) : a = b := h
theorem am_ {p : Prop} (h : p) : Aside0 p := ⟨h⟩
theorem oa_ {p : Prop} [Decidable p] (h : decide p = true := by first | (with_reducible assumption) | assumption) : p := of_decide_eq_true h
theorem aBp {α β : Type} {o : Option α} {f : α → Option β} {b : β} (h : o.bind f = some b) : ∃ a, o = some a ∧ f a = some b := Option.bind_eq_some_iff.mp h
end Go.Proofs.YtnobhkmpkichdaaGreatW.PrintLast
