/- Small lemmas on worlds and lists that this session's own contracts use: every program, every numbering. -/
import Derived.Test.YtioemnmabbdfgaaWMore
namespace Go.Proofs.YtioemnmabbdfgaaW.PrintMore
open Go.RowKit Go.Proofs.YtioemnmabbdfgaaW.PrintWords Go.Proofs.YtioemnmabbdfgaaW.PrintLast
theorem cell_of_block {W : World} {g : Nat} {cs : Array Value} {t : TypeId} {fr : Nat × Nat} (h : W.heap[g]? = some (.cells cs t fr)) (j : Nat) : W.cell? ⟨g, j, none⟩ = cs[j]? := by
  simp [World.cell?, h]
theorem frozen_of_block {W : World} {g : Nat} {cs : Array Value} {t : TypeId} (h : W.heap[g]? = some (.cells cs t (0, 0))) (j : Nat) : W.frozen? ⟨g, j, none⟩ = false := by
  simp [World.frozen?, h]
theorem heap_alloc_kept {W : World} {g : Nat} {ob : Obj} (h : W.heap[g]? = some ob) (o : Obj) : (W.alloc o).heap[g]? = some ob := (heap_alloc_old W o (Array.getElem?_eq_some_iff.1 h).1).trans h
theorem heap_below_kept {W W' : World} {g : Nat} {ob : Obj} (h : W.heap[g]? = some ob) (hb : Below W.heap.size W W') : W'.heap[g]? = some ob := (hb.block g (Array.getElem?_eq_some_iff.1 h).1).trans h
theorem ret_int_eq {k : IntKind} {a b : Int} (h : a = b) : Ending.returned (.int k a) = .returned (.int k b) := by rw [h]
theorem ret_bool_eq {a b : Bool} (h : a = b) : Ending.returned (.bool a) = .returned (.bool b) := by rw [h]
/-- All elements, from the left, as long as they are as told. -/
def allO {α : Type} (f : α → Option Bool) : List α → Option Bool
  | [] => some true
  | x :: xs => (f x).bind fun b => if b = true then allO f xs else some false
end Go.Proofs.YtioemnmabbdfgaaW.PrintMore
