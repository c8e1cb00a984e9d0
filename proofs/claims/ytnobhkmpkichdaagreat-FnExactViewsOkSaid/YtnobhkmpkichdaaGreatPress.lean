/- Short words for the printed texts: each stands for a few lines that the printer writes anew at each place (what is left out is shown by the tactic behind ':='). -/
import Derived.Test.YtnobhkmpkichdaaGreatWWords
import Derived.Test.YtnobhkmpkichdaaGreatWLast
import Derived.Test.YtnobhkmpkichdaaGreatWTab
import Derived.Test.YtnobhkmpkichdaaGreatWGuard
import Derived.Test.YtnobhkmpkichdaaGreatWApart
namespace Go.Proofs.YtnobhkmpkichdaaGreatW.PrintLast
open Go.RowKit Go.Proofs.YtnobhkmpkichdaaGreatW.PrintWords
set_option linter.unusedVariables false
def bm (n m : Nat) : Array Bool := ((List.range n).map (Nat.testBit m)).toArray
def tf (a b : Nat) : Array Bool := (List.replicate a true ++ List.replicate b false).toArray
theorem aVa {p q r : Prop} (h : p ∧ q) (k : p → q → r) : r := k h.1 h.2
section
variable {P : Program} {ops : Array Oper} {Q : Exit → Act → World → Prop} {md : Region.Mode} {S : World → Prop} {ds : List Nat} {fuel : Nat} {a a' : Act} {w : World} {oi : Oper} {n : Tmp} {v : Value}
theorem pl_ {i m : Nat} (h : aAq P md ops Q S ds fuel (tf (i + 1) m) a' w) (hi : ops[i]? = some oi := by rfl) (hN : oi.dst = some n := by rfl) (hc : aSo md ops (tf i (m + 1)) (tf (i + 1) m) i = true := by exact aPa HT_.out (by kernel_rfl))
  (hQ : ∀ c a w, Q (.panic c) (a.put oi.dst v) w → Q (.panic c) a w := by exact (fun _ _ _ h => h)) (hw : Region.wanted oi (yielded ops a.tmps) = true := by rfl)
  (hy : ∀ w' : World, (execOp a.eval oi).run P w' = .ok (.value v) w' := by intro w'; go_simp; with_reducible rfl)
  (ha : a.put (some n) v = a' := by simp only [Act.put, List.setIfInBounds_toArray, List.set_cons_zero, List.set_cons_succ, aCj, aCw]; rfl) :
  aAq P md ops Q S ds (fuel + 1) (tf i (m + 1)) a w := aIl _ hi hN hc hQ (Or.inl ⟨hw, hy⟩) ha h
theorem pd_ {i m : Nat} (h : aAq P md ops Q S ds fuel (tf (i + 1) m) a' w) (hi : ops[i]? = some oi := by rfl) (hN : oi.dst = some n := by rfl) (hc : aSo md ops (tf i (m + 1)) (tf (i + 1) m) i = true := by exact aPa HT_.out (by kernel_rfl))
  (hQ : ∀ c a w, Q (.panic c) (a.put oi.dst undef) w → Q (.panic c) a w := by exact (fun _ _ _ h => h)) (hw : Region.wanted oi (yielded ops a.tmps) = false := by rfl)
  (ha : a.put (some n) undef = a' := by simp only [Act.put, List.setIfInBounds_toArray, List.set_cons_zero, List.set_cons_succ, aCj, aCw]; rfl) :
  aAq P md ops Q S ds (fuel + 1) (tf i (m + 1)) a w := aIl _ hi hN hc hQ (Or.inr ⟨hw, rfl⟩) ha h
theorem tl_ {i m : Nat} (h : aAq P md ops Q S ds fuel (tf (i + 1) m) a' w) (hi : ops[i]? = some oi := by rfl) (hN : oi.dst = some n := by rfl) (hc : takeB md ops ds (tf i (m + 1)) (tf (i + 1) m) i = true := by exact aOz HT_.out HW_.out (by kernel_rfl))
  (hQ : ∀ c a w, Q (.panic c) (a.put oi.dst v) w → Q (.panic c) a w := by exact (fun _ _ _ h => h)) (hw : Region.wanted oi (yielded ops a.tmps) = true := by rfl)
  (hy : ∀ w' : World, S w' → (execOp a.eval oi).run P w' = .ok (.value v) w' := by intro w' hs; (repeat (refine aVa hs ?_; clear hs; intro _ hs)); go_simp; with_reducible rfl)
  (hS : S w := by exact hHeld) (ha : a.put (some n) v = a' := by simp only [Act.put, List.setIfInBounds_toArray, List.set_cons_zero, List.set_cons_succ, aCj, aCw]; rfl) :
  aAq P md ops Q S ds (fuel + 1) (tf i (m + 1)) a w := aJy _ hi hN hc hQ (Or.inl ⟨hw, hy⟩) hS ha h
theorem aBa (i : Nat) {l : Array Bool} (l' : Array Bool) (h : aAq P md ops Q S ds fuel l' a' w) (hi : ops[i]? = some oi := by rfl) (hN : oi.dst = some n := by rfl) (hc : aSo md ops l l' i = true := by exact aPa HT_.out (by kernel_rfl))
  (hQ : ∀ c a w, Q (.panic c) (a.put oi.dst v) w → Q (.panic c) a w := by exact (fun _ _ _ h => h)) (hw : Region.wanted oi (yielded ops a.tmps) = true := by rfl)
  (hy : ∀ w' : World, (execOp a.eval oi).run P w' = .ok (.value v) w' := by intro w'; go_simp; with_reducible rfl)
  (ha : a.put (some n) v = a' := by simp only [Act.put, List.setIfInBounds_toArray, List.set_cons_zero, List.set_cons_succ, aCj, aCw]; rfl) :
  aAq P md ops Q S ds (fuel + 1) l a w := aIl _ hi hN hc hQ (Or.inl ⟨hw, hy⟩) ha h
theorem aWi (i : Nat) {l : Array Bool} (l' : Array Bool) (h : aAq P md ops Q S ds fuel l' a' w) (hi : ops[i]? = some oi := by rfl) (hN : oi.dst = some n := by rfl) (hc : aSo md ops l l' i = true := by exact aPa HT_.out (by kernel_rfl))
  (hQ : ∀ c a w, Q (.panic c) (a.put oi.dst undef) w → Q (.panic c) a w := by exact (fun _ _ _ h => h)) (hw : Region.wanted oi (yielded ops a.tmps) = false := by rfl)
  (ha : a.put (some n) undef = a' := by simp only [Act.put, List.setIfInBounds_toArray, List.set_cons_zero, List.set_cons_succ, aCj, aCw]; rfl) :
  aAq P md ops Q S ds (fuel + 1) l a w := aIl _ hi hN hc hQ (Or.inr ⟨hw, rfl⟩) ha h
theorem aCx (i : Nat) {l : Array Bool} (l' : Array Bool) (h : aAq P md ops Q S ds fuel l' a' w) (hi : ops[i]? = some oi := by rfl) (hN : oi.dst = some n := by rfl) (hc : takeB md ops ds l l' i = true := by exact aOz HT_.out HW_.out (by kernel_rfl))
  (hQ : ∀ c a w, Q (.panic c) (a.put oi.dst v) w → Q (.panic c) a w := by exact (fun _ _ _ h => h)) (hw : Region.wanted oi (yielded ops a.tmps) = true := by rfl)
  (hy : ∀ w' : World, S w' → (execOp a.eval oi).run P w' = .ok (.value v) w' := by intro w' hs; (repeat (refine aVa hs ?_; clear hs; intro _ hs)); go_simp; with_reducible rfl)
  (hS : S w := by exact hHeld) (ha : a.put (some n) v = a' := by simp only [Act.put, List.setIfInBounds_toArray, List.set_cons_zero, List.set_cons_succ, aCj, aCw]; rfl) :
  aAq P md ops Q S ds (fuel + 1) l a w := aJy _ hi hN hc hQ (Or.inl ⟨hw, hy⟩) hS ha h
theorem aMl {i m : Nat} (h : aAq P md ops Q S ds fuel (tf (i + 1) m) a' w) (hi : ops[i]? = some oi := by rfl) (hN : oi.dst = some n := by rfl) (hc : aSo md ops (tf i (m + 1)) (tf (i + 1) m) i = true := by kernel_rfl)
  (hQ : ∀ c a w, Q (.panic c) (a.put oi.dst v) w → Q (.panic c) a w := by exact (fun _ _ _ h => h)) (hw : Region.wanted oi (yielded ops a.tmps) = true := by rfl)
  (hy : ∀ w' : World, (execOp a.eval oi).run P w' = .ok (.value v) w' := by intro w'; go_simp; with_reducible rfl)
  (ha : a.put (some n) v = a' := by simp only [Act.put, List.setIfInBounds_toArray, List.set_cons_zero, List.set_cons_succ, aCj, aCw]; rfl) :
  aAq P md ops Q S ds (fuel + 1) (tf i (m + 1)) a w := aIl _ hi hN hc hQ (Or.inl ⟨hw, hy⟩) ha h
theorem aOx {i m : Nat} (h : aAq P md ops Q S ds fuel (tf (i + 1) m) a' w) (hi : ops[i]? = some oi := by rfl) (hN : oi.dst = some n := by rfl) (hc : aSo md ops (tf i (m + 1)) (tf (i + 1) m) i = true := by kernel_rfl)
  (hQ : ∀ c a w, Q (.panic c) (a.put oi.dst undef) w → Q (.panic c) a w := by exact (fun _ _ _ h => h)) (hw : Region.wanted oi (yielded ops a.tmps) = false := by rfl)
  (ha : a.put (some n) undef = a' := by simp only [Act.put, List.setIfInBounds_toArray, List.set_cons_zero, List.set_cons_succ, aCj, aCw]; rfl) :
  aAq P md ops Q S ds (fuel + 1) (tf i (m + 1)) a w := aIl _ hi hN hc hQ (Or.inr ⟨hw, rfl⟩) ha h
theorem aMm {i m : Nat} (h : aAq P md ops Q S ds fuel (tf (i + 1) m) a' w) (hi : ops[i]? = some oi := by rfl) (hN : oi.dst = some n := by rfl) (hc : takeB md ops ds (tf i (m + 1)) (tf (i + 1) m) i = true := by kernel_rfl)
  (hQ : ∀ c a w, Q (.panic c) (a.put oi.dst v) w → Q (.panic c) a w := by exact (fun _ _ _ h => h)) (hw : Region.wanted oi (yielded ops a.tmps) = true := by rfl)
  (hy : ∀ w' : World, S w' → (execOp a.eval oi).run P w' = .ok (.value v) w' := by intro w' hs; (repeat (refine aVa hs ?_; clear hs; intro _ hs)); go_simp; with_reducible rfl)
  (hS : S w := by exact hHeld) (ha : a.put (some n) v = a' := by simp only [Act.put, List.setIfInBounds_toArray, List.set_cons_zero, List.set_cons_succ, aCj, aCw]; rfl) :
  aAq P md ops Q S ds (fuel + 1) (tf i (m + 1)) a w := aJy _ hi hN hc hQ (Or.inl ⟨hw, hy⟩) hS ha h
theorem aNx {i m : Nat} (h : ∀ K : Act → World → Prop, Shut (∀ a' w', S w' → (S w' → aAq P md ops Q S ds fuel (tf (i + 1) m) a' w') → K a' w') → if Region.wanted oi (yielded ops a.tmps) = true then Oper.wp P oi a w K Q else K (a.put (some n) undef) w)
  (hi : ops[i]? = some oi := by rfl) (hN : oi.dst = some n := by rfl) (hc : aKn md ops (tf i (m + 1)) (tf (i + 1) m) i = true := by kernel_rfl) (hd : i ∉ ds := by decide) : aAq P md ops Q S ds (fuel + 1) (tf i (m + 1)) a w := aYa _ hi hN hc hd h
theorem nm_ {l : Array Bool} {b : Act} (h : aAq P md ops Q S ds fuel l a' w) (ha : b = a' := by show Act.put _ (some _) _ = _; simp only [Act.put, List.setIfInBounds_toArray, List.set_cons_zero, List.set_cons_succ, aCj, aCw]; rfl) : aAq P md ops Q S ds fuel l b w := aLq ha h
theorem gs_ {N : Option Tmp} {K : Act → World → Prop} {f : FuncId} {fn : Func} {as : Array Operand} {ts : Array TypeId} (fn_ : P.funcs[f]? = some fn) (args : Array Value) (h : Calls P f args w fun e w' => ∃ v, e = .returned v ∧ K (a.put N v) w')
  (hname : (fn.name == "runtime.NumGoroutine") = false := by kernel_rfl) (hb : fn.body.isSome = true := by rfl) (hw : Region.wanted oi (yielded ops a.tmps) = true := by rfl) (hN : oi.dst = N := by rfl) (hop : oi.op = .call { callee := .value (.func f), args := as, argTypes := ts } := by rfl)
  (hargs : as.map a.eval = args := by (try simp only [List.map_toArray, List.map_cons, List.map_nil]); first | done | rfl | (simp only [List.length_drop, List.length_take]; rfl)) :
  if Region.wanted oi (yielded ops a.tmps) = true then Oper.wp P oi a w K Q else K (a.put N undef) w := aVh fn_ hname hb args hw hN hop hargs h
theorem aBh {rest : List Oper} (N : Option Tmp) {f : FuncId} {fn : Func} {as : Array Operand} {ts : Array TypeId} (fn_ : P.funcs[f]? = some fn) (args : Array Value) (h : Calls P f args w fun e w' => ∃ v, e = .returned v ∧ wpList P ops Q rest (a.put N v) w')
  (hd : oi.dst = N := by rfl) (hg : oi.guard = none := by rfl) (hname : (fn.name == "runtime.NumGoroutine") = false := by kernel_rfl) (hb : fn.body.isSome = true := by rfl) (hop : oi.op = .call { callee := .value (.func f), args := as, argTypes := ts } := by rfl)
  (hargs : as.map a.eval = args := by (try simp only [List.map_toArray, List.map_cons, List.map_nil]); first | done | rfl | (simp only [List.length_drop, List.length_take]; rfl)) : wpList P ops Q (oi :: rest) a w := aWq N hd hg fn_ hname hb args hop hargs h
theorem bx_ {rest : List Oper} {W : World} (N : Tmp) (cs : Array Value) (t : TypeId)
  (h : ∀ g, g = W.heap.size → ∀ w1, w1.heap[g]? = some (.cells cs t (0, 0)) → Below W.heap.size W w1 → wpList P ops Q rest (a.put oi.dst (.pointer (some ⟨g, 0, none⟩))) w1)
  (hgd : oi.guard = none := by rfl) (hd : oi.dst = some N := by rfl) (hr : (execOp a.eval oi).run P W = .ok (.value (.pointer (some ⟨W.heap.size, 0, none⟩))) (W.alloc (.cells cs t (0, 0))) := by first | (go_simp; done) | (go_simp; rfl)) :
  wpList P ops Q (oi :: rest) a W := aQy hgd hd hr h
end
inductive Ext (W : World) : World → Prop
 | refl : Ext W W
 | alloc {V : World} (h : Ext W V) (o : Obj) : Ext W (V.alloc o)
 | drewN {V : World} (h : Ext W V) (n : Nat) : Ext W (V.drewN n)
 | drew {V : World} (h : Ext W V) : Ext W V.drew
theorem ck_ {α : Type} {d : Kd α} {W0 W : World} {A : Option Addr} {n : Nat} {l : List α} (x : Kd.C d W0 A n l) (h : Ext W0 W := by repeat (first | with_reducible exact Ext.refl | with_reducible apply Ext.alloc | with_reducible apply Ext.drewN | with_reducible apply Ext.drew | exact Ext.refl)) : Kd.C d W A n l := by
 induction h with
 | refl => exact x
 | alloc _ o ih => exact Kd.aCp ih o
 | drewN _ m ih => exact Kd.aCo ih m
 | drew _ ih => exact Kd.aDt ih
theorem aBx {W0 W : World} {g : Nat} {o : Obj} (x : W0.heap[g]? = some o) (h : Ext W0 W := by repeat (first | with_reducible exact Ext.refl | with_reducible apply Ext.alloc | with_reducible apply Ext.drewN | with_reducible apply Ext.drew | exact Ext.refl)) : W.heap[g]? = some o := by
 induction h with
 | refl => exact x
 | alloc _ o' ih => exact aCh ih o'
 | drewN _ m ih => exact ih
 | drew _ ih => exact ih
theorem aAt {W0 W W2 : World} {g : Nat} {o : Obj} (x : Aside0 (W0.heap[g]? = some o)) (hb : Below W.heap.size W W2) (h : Ext W0 W := by repeat (first | with_reducible exact Ext.refl | with_reducible apply Ext.alloc | with_reducible apply Ext.drewN | with_reducible apply Ext.drew | exact Ext.refl)) : Aside0 (W2.heap[g]? = some o) := ⟨aBe (aBx x.out h) hb⟩
theorem bb_ {B : Nat} {w W : World} (h : Below B w W := by repeat (first | (with_reducible first | exact HB.out | apply aAi | apply aAo | apply aAm | refine aAk ?_ (Aside0.out (by assumption))) | exact HB.out)) : Below B w W := h
theorem bs_ {w W w2 : World} (k : Below W.heap.size W w2) (h : Below w.heap.size w W := by repeat (first | (with_reducible first | exact HB.out | apply aAi | apply aAo | apply aAm | refine aAk ?_ (Aside0.out (by assumption))) | exact HB.out)) : Aside0 (Below w.heap.size w w2) := ⟨aQh h k⟩
theorem er_ {α : Type} {x y : α} (h : x = y := by first | rfl | (simp [aBo, aBq] <;> rfl) | (simp [*, aBo, aBq] <;> rfl)) : x = y := h
theorem gw_ {w W : World} {g : Nat} (hg : g = W.heap.size) (h : Below w.heap.size w W := by repeat (first | (with_reducible first | exact HB.out | apply aAi | apply aAo | apply aAm | refine aAk ?_ (Aside0.out (by assumption))) | exact HB.out)) : Aside0 (w.heap.size ≤ g) := ⟨by rw [hg]; exact aAj h⟩
theorem bc_ {w : World} {g : Nat} {t : TypeId} {cs : Array Value} {v : Value} (h : Aside0 (w.heap[g]? = some (.cells cs t (0, 0)))) (i : Nat) (e : cs[i]? = some v := by rfl) : w.cell? ⟨g, i, none⟩ = some v := (aSv h.out i).trans e
theorem hb_ {w W : World} {a : Addr} {v : Value} (HB : Aside0 (Below w.heap.size w W)) (h : w.cell? a = some v) : W.cell? a = some v := (HB.out.cell (World.block_lt_of_cell? w _ h)).trans h
theorem rk_ {α : Type} {d : Kd α} {e : Nat} {W0 W : World} {base : Nat} {ok : Nat → Prop} {v : Value} {xs : List α} (x : d.R e W0 base ok v xs) (h : Ext W0 W := by repeat (first | with_reducible exact Ext.refl | with_reducible apply Ext.alloc | with_reducible apply Ext.drewN | with_reducible apply Ext.drew | exact Ext.refl)) : d.R e W base ok v xs := by
 induction h with
 | refl => exact x
 | alloc _ o ih => exact Kd.aBf ih o
 | drewN _ m ih => exact Kd.aBg ih m
 | drew _ ih => exact Kd.aBi ih
theorem sk_ {α : Type} {d : Kd α} {e : Nat} {W0 W : World} {base : Nat} {ok : Nat → Prop} {v : Value} {xs : List α} (x : Kd.S d e W0 base ok v xs) (h : Ext W0 W := by repeat (first | with_reducible exact Ext.refl | with_reducible apply Ext.alloc | with_reducible apply Ext.drewN | with_reducible apply Ext.drew | exact Ext.refl)) : Kd.S d e W base ok v xs := by
 induction h with
 | refl => exact x
 | alloc _ o ih => exact Kd.aGt ih o
 | drewN _ m ih => exact Kd.aGu ih m
 | drew _ ih => exact Kd.aJl ih
theorem aQk {W : World} {g g' i0 : Nat} {t : TypeId} {cs : Array Value} {u0 : Value} (hne : Aside0 (g ≠ g')) (h : W.heap[g]? = some (.cells cs t (0, 0))) : (W.setCell ⟨g', i0, none⟩ u0).heap[g]? = some (.cells cs t (0, 0)) := (aCu (p := ⟨g', i0, none⟩) h hne.out _)
theorem aWo {W : World} {g : Nat} {t : TypeId} {v0 v1 u0 u1 : Value} (h : W.heap[g]? = some (.cells #[v0, v1] t (0, 0))) : ((W.setCell ⟨g, 0, none⟩ u0).setCell ⟨g, 1, none⟩ u1).heap[g]? = some (.cells #[u0, u1] t (0, 0)) := (aCr (cs' := #[u0, u1]) (aCr (cs' := #[u0, v1]) h 0 _ rfl) 1 _ rfl)
theorem aTv {W : World} {g g' i0 i1 : Nat} {t : TypeId} {cs : Array Value} {u0 u1 : Value} (hne : Aside0 (g ≠ g')) (h : W.heap[g]? = some (.cells cs t (0, 0))) : ((W.setCell ⟨g', i0, none⟩ u0).setCell ⟨g', i1, none⟩ u1).heap[g]? = some (.cells cs t (0, 0)) := (aCu (p := ⟨g', i1, none⟩) (aCu (p := ⟨g', i0, none⟩) h hne.out _) hne.out _)
theorem aWh {W : World} {g : Nat} {t : TypeId} {v0 v1 v2 u0 u1 u2 : Value} (h : W.heap[g]? = some (.cells #[v0, v1, v2] t (0, 0))) : (((W.setCell ⟨g, 0, none⟩ u0).setCell ⟨g, 1, none⟩ u1).setCell ⟨g, 2, none⟩ u2).heap[g]? = some (.cells #[u0, u1, u2] t (0, 0)) := (aCr (cs' := #[u0, u1, u2]) (aCr (cs' := #[u0, u1, v2]) (aCr (cs' := #[u0, v1, v2]) h 0 _ rfl) 1 _ rfl) 2 _ rfl)
theorem aYu {W : World} {g g' i0 i1 i2 : Nat} {t : TypeId} {cs : Array Value} {u0 u1 u2 : Value} (hne : Aside0 (g ≠ g')) (h : W.heap[g]? = some (.cells cs t (0, 0))) : (((W.setCell ⟨g', i0, none⟩ u0).setCell ⟨g', i1, none⟩ u1).setCell ⟨g', i2, none⟩ u2).heap[g]? = some (.cells cs t (0, 0)) := (aCu (p := ⟨g', i2, none⟩) (aCu (p := ⟨g', i1, none⟩) (aCu (p := ⟨g', i0, none⟩) h hne.out _) hne.out _) hne.out _)
theorem aYp {W : World} {g g' i0 i1 i2 i3 : Nat} {t : TypeId} {cs : Array Value} {u0 u1 u2 u3 : Value} (hne : Aside0 (g ≠ g')) (h : W.heap[g]? = some (.cells cs t (0, 0))) : ((((W.setCell ⟨g', i0, none⟩ u0).setCell ⟨g', i1, none⟩ u1).setCell ⟨g', i2, none⟩ u2).setCell ⟨g', i3, none⟩ u3).heap[g]? = some (.cells cs t (0, 0)) := (aCu (p := ⟨g', i3, none⟩) (aCu (p := ⟨g', i2, none⟩) (aCu (p := ⟨g', i1, none⟩) (aCu (p := ⟨g', i0, none⟩) h hne.out _) hne.out _) hne.out _) hne.out _)
theorem aZb {W : World} {g : Nat} {t : TypeId} {v0 v1 v2 v3 v4 v5 v6 u0 u1 u2 u3 u4 u5 u6 : Value} (h : W.heap[g]? = some (.cells #[v0, v1, v2, v3, v4, v5, v6] t (0, 0))) : (((((((W.setCell ⟨g, 0, none⟩ u0).setCell ⟨g, 1, none⟩ u1).setCell ⟨g, 2, none⟩ u2).setCell ⟨g, 3, none⟩ u3).setCell ⟨g, 4, none⟩ u4).setCell ⟨g, 5, none⟩ u5).setCell ⟨g, 6, none⟩ u6).heap[g]? = some (.cells #[u0, u1, u2, u3, u4, u5, u6] t (0, 0)) := (aCr (cs' := #[u0, u1, u2, u3, u4, u5, u6]) (aCr (cs' := #[u0, u1, u2, u3, u4, u5, v6]) (aCr (cs' := #[u0, u1, u2, u3, u4, v5, v6]) (aCr (cs' := #[u0, u1, u2, u3, v4, v5, v6]) (aCr (cs' := #[u0, u1, u2, v3, v4, v5, v6]) (aCr (cs' := #[u0, u1, v2, v3, v4, v5, v6]) (aCr (cs' := #[u0, v1, v2, v3, v4, v5, v6]) h 0 _ rfl) 1 _ rfl) 2 _ rfl) 3 _ rfl) 4 _ rfl) 5 _ rfl) 6 _ rfl)
theorem aYc {W : World} {g g' i0 i1 i2 i3 i4 i5 i6 : Nat} {t : TypeId} {cs : Array Value} {u0 u1 u2 u3 u4 u5 u6 : Value} (hne : Aside0 (g ≠ g')) (h : W.heap[g]? = some (.cells cs t (0, 0))) : (((((((W.setCell ⟨g', i0, none⟩ u0).setCell ⟨g', i1, none⟩ u1).setCell ⟨g', i2, none⟩ u2).setCell ⟨g', i3, none⟩ u3).setCell ⟨g', i4, none⟩ u4).setCell ⟨g', i5, none⟩ u5).setCell ⟨g', i6, none⟩ u6).heap[g]? = some (.cells cs t (0, 0)) := (aCu (p := ⟨g', i6, none⟩) (aCu (p := ⟨g', i5, none⟩) (aCu (p := ⟨g', i4, none⟩) (aCu (p := ⟨g', i3, none⟩) (aCu (p := ⟨g', i2, none⟩) (aCu (p := ⟨g', i1, none⟩) (aCu (p := ⟨g', i0, none⟩) h hne.out _) hne.out _) hne.out _) hne.out _) hne.out _) hne.out _) hne.out _)
theorem rs_ {α : Type} {x y : α} (h : x = y := by first | rfl | (simp; done) | (simp [*]; done)) : x = y := h
theorem b2_ {w : World} {g : Nat} {t : TypeId} {v0 v1 : Value} (h : Aside0 (w.heap[g]? = some (.cells #[v0, v1] t (0, 0)))) : w.cell? ⟨g, 0, none⟩ = some v0 ∧ w.cell? ⟨g, 1, none⟩ = some v1 ∧ w.frozen? ⟨g, 0, none⟩ = false ∧ w.frozen? ⟨g, 1, none⟩ = false := ⟨bc_ h 0, bc_ h 1, aAx h.out 0, aAx h.out 1⟩
theorem b3_ {w : World} {g : Nat} {t : TypeId} {v0 v1 v2 : Value} (h : Aside0 (w.heap[g]? = some (.cells #[v0, v1, v2] t (0, 0)))) : w.cell? ⟨g, 0, none⟩ = some v0 ∧ w.cell? ⟨g, 1, none⟩ = some v1 ∧ w.cell? ⟨g, 2, none⟩ = some v2 ∧ w.frozen? ⟨g, 0, none⟩ = false ∧ w.frozen? ⟨g, 1, none⟩ = false ∧ w.frozen? ⟨g, 2, none⟩ = false := ⟨bc_ h 0, bc_ h 1, bc_ h 2, aAx h.out 0, aAx h.out 1, aAx h.out 2⟩
theorem b7_ {w : World} {g : Nat} {t : TypeId} {v0 v1 v2 v3 v4 v5 v6 : Value} (h : Aside0 (w.heap[g]? = some (.cells #[v0, v1, v2, v3, v4, v5, v6] t (0, 0)))) : w.cell? ⟨g, 0, none⟩ = some v0 ∧ w.cell? ⟨g, 1, none⟩ = some v1 ∧ w.cell? ⟨g, 2, none⟩ = some v2 ∧ w.cell? ⟨g, 3, none⟩ = some v3 ∧ w.cell? ⟨g, 4, none⟩ = some v4 ∧ w.cell? ⟨g, 5, none⟩ = some v5 ∧ w.cell? ⟨g, 6, none⟩ = some v6 ∧ w.frozen? ⟨g, 0, none⟩ = false ∧ w.frozen? ⟨g, 1, none⟩ = false ∧ w.frozen? ⟨g, 2, none⟩ = false ∧ w.frozen? ⟨g, 3, none⟩ = false ∧ w.frozen? ⟨g, 4, none⟩ = false ∧ w.frozen? ⟨g, 5, none⟩ = false ∧ w.frozen? ⟨g, 6, none⟩ = false := ⟨bc_ h 0, bc_ h 1, bc_ h 2, bc_ h 3, bc_ h 4, bc_ h 5, bc_ h 6, aAx h.out 0, aAx h.out 1, aAx h.out 2, aAx h.out 3, aAx h.out 4, aAx h.out 5, aAx h.out 6⟩
theorem aBw {w : World} {g : Nat} {t : TypeId} {v0 v1 v2 v3 v4 v5 v6 v7 v8 v9 v10 v11 : Value} (h : Aside0 (w.heap[g]? = some (.cells #[v0, v1, v2, v3, v4, v5, v6, v7, v8, v9, v10, v11] t (0, 0)))) : w.cell? ⟨g, 0, none⟩ = some v0 ∧ w.cell? ⟨g, 1, none⟩ = some v1 ∧ w.cell? ⟨g, 2, none⟩ = some v2 ∧ w.cell? ⟨g, 3, none⟩ = some v3 ∧ w.cell? ⟨g, 4, none⟩ = some v4 ∧ w.cell? ⟨g, 5, none⟩ = some v5 ∧ w.cell? ⟨g, 6, none⟩ = some v6 ∧ w.cell? ⟨g, 7, none⟩ = some v7 ∧ w.cell? ⟨g, 8, none⟩ = some v8 ∧ w.cell? ⟨g, 9, none⟩ = some v9 ∧ w.cell? ⟨g, 10, none⟩ = some v10 ∧ w.cell? ⟨g, 11, none⟩ = some v11 ∧ w.frozen? ⟨g, 0, none⟩ = false ∧ w.frozen? ⟨g, 1, none⟩ = false ∧ w.frozen? ⟨g, 2, none⟩ = false ∧ w.frozen? ⟨g, 3, none⟩ = false ∧ w.frozen? ⟨g, 4, none⟩ = false ∧ w.frozen? ⟨g, 5, none⟩ = false ∧ w.frozen? ⟨g, 6, none⟩ = false ∧ w.frozen? ⟨g, 7, none⟩ = false ∧ w.frozen? ⟨g, 8, none⟩ = false ∧ w.frozen? ⟨g, 9, none⟩ = false ∧ w.frozen? ⟨g, 10, none⟩ = false ∧ w.frozen? ⟨g, 11, none⟩ = false := ⟨bc_ h 0, bc_ h 1, bc_ h 2, bc_ h 3, bc_ h 4, bc_ h 5, bc_ h 6, bc_ h 7, bc_ h 8, bc_ h 9, bc_ h 10, bc_ h 11, aAx h.out 0, aAx h.out 1, aAx h.out 2, aAx h.out 3, aAx h.out 4, aAx h.out 5, aAx h.out 6, aAx h.out 7, aAx h.out 8, aAx h.out 9, aAx h.out 10, aAx h.out 11⟩
theorem nl_ {W : World} {g g' : Nat} {o : Obj} {W0 : World} (hg : g' = W.heap.size) (x : Aside0 (W0.heap[g]? = some o)) (h : Ext W0 W := by repeat (first | with_reducible exact Ext.refl | with_reducible apply Ext.alloc | with_reducible apply Ext.drewN | with_reducible apply Ext.drew | exact Ext.refl)) : Aside0 (g ≠ g') := ⟨by rw [hg]; exact Nat.ne_of_lt (aEt (aBx x.out h))⟩
theorem ng_ {W : World} {g g' : Nat} {o : Obj} {W0 : World} (hg : g' = W.heap.size) (x : Aside0 (W0.heap[g]? = some o)) (h : Ext W0 W := by repeat (first | with_reducible exact Ext.refl | with_reducible apply Ext.alloc | with_reducible apply Ext.drewN | with_reducible apply Ext.drew | exact Ext.refl)) : Aside0 (g' ≠ g) := ⟨by rw [hg]; exact Nat.ne_of_gt (aEt (aBx x.out h))⟩
end Go.Proofs.YtnobhkmpkichdaaGreatW.PrintLast
