/- Small lemmas on worlds and lists that this session's own contracts use: every program, every numbering. -/
import Derived.Test.YthgdmdabdlgliaaWWords
import Derived.Test.YthgdmdabdlgliaaWLast
import Derived.Shelf.Abstract
import Derived.Lib.ConvBytes
namespace Go.Proofs.YthgdmdabdlgliaaW.PrintMore
open Go.RowKit Go.Proofs.YthgdmdabdlgliaaW.PrintWords Go.Proofs.YthgdmdabdlgliaaW.PrintLast
/-- What is asked of a function value (function g, captured variables lb) that tells of each of xs what f tells: called in any world that has grown out of w. -/
def CB (P : Program) {α : Type} (d : Kd α) (enc : List Value → Value) (g : Nat) (lb : Array Value) (f : α → Option Bool) (xs : List α) (w : World) : Prop :=
  ∀ (W : World) (x : α) (cs : List Value) (b : Bool), Below w.heap.size w W → x ∈ xs → d.K W x cs → f x = some b → Calls P g (#[enc cs] ++ lb) W fun e w' => e = .returned (.bool b) ∧ Below W.heap.size W w'
theorem CB.later {P : Program} {α : Type} {d : Kd α} {enc : List Value → Value} {g : Nat} {lb : Array Value} {f : α → Option Bool} {xs : List α} {w w1 : World} (hb : Below w.heap.size w w1) (h : CB P d enc g lb f xs w) : CB P d enc g lb f xs w1 :=
  fun W x cs b hW hm hK hf => h W x cs b (hb.trans (hW.mono hb.size)) hm hK hf
theorem Addr_lt {W : World} {a : Addr} {v : Value} (h : W.cell? a = some v) : a.block < W.heap.size := by
  unfold World.cell? at h
  cases hb : W.heap[a.block]? with
  | none => simp [hb] at h
  | some o => exact (Array.getElem?_eq_some_iff.1 hb).1
end Go.Proofs.YthgdmdabdlgliaaW.PrintMore
