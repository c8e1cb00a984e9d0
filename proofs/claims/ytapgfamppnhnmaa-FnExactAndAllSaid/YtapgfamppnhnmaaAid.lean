/- Small lemmas on worlds and lists that this session's own contracts use: every program, every numbering. -/
import Derived.Test.YtapgfamppnhnmaaWWords
import Derived.Test.YtapgfamppnhnmaaWLast
import Derived.Shelf.Abstract
import Derived.Lib.ConvBytes
namespace Go.Proofs.YtapgfamppnhnmaaW.PrintMore
open Go.RowKit Go.Proofs.YtapgfamppnhnmaaW.PrintWords Go.Proofs.YtapgfamppnhnmaaW.PrintLast
theorem cell_of_block {W : World} {g : Nat} {cs : Array Value} {t : TypeId} {fr : Nat × Nat} (h : W.heap[g]? = some (.cells cs t fr)) (j : Nat) : W.cell? ⟨g, j, none⟩ = cs[j]? := by
  simp [World.cell?, h]
theorem frozen_of_block {W : World} {g : Nat} {cs : Array Value} {t : TypeId} (h : W.heap[g]? = some (.cells cs t (0, 0))) (j : Nat) : W.frozen? ⟨g, j, none⟩ = false := by
  simp [World.frozen?, h]
theorem heap_alloc_kept {W : World} {g : Nat} {ob : Obj} (h : W.heap[g]? = some ob) (o : Obj) : (W.alloc o).heap[g]? = some ob := (heap_alloc_old W o (Array.getElem?_eq_some_iff.1 h).1).trans h
theorem heap_below_kept {W W' : World} {g : Nat} {ob : Obj} (h : W.heap[g]? = some ob) (hb : Below W.heap.size W W') : W'.heap[g]? = some ob := (hb.block g (Array.getElem?_eq_some_iff.1 h).1).trans h
theorem ret_int_eq {k : IntKind} {a b : Int} (h : a = b) : Ending.returned (.int k a) = .returned (.int k b) := by rw [h]
theorem ret_bool_eq {a b : Bool} (h : a = b) : Ending.returned (.bool a) = .returned (.bool b) := by rw [h]
/-- All elements, from the left, as long as they are as told. -/
def allO {α : Type} (f : α → Option Bool) : List α → Option Bool
  | [] => some true
  | x :: xs => (f x).bind fun b => if b = true then allO f xs else some false
/-- What is asked of a function value (function g, captured variables lb) that tells of each of xs what f tells: called in any world that has grown out of w. -/
def CB (P : Program) {α : Type} (d : Kd α) (enc : List Value → Value) (g : Nat) (lb : Array Value) (f : α → Option Bool) (xs : List α) (w : World) : Prop :=
  ∀ (W : World) (x : α) (cs : List Value) (b : Bool), Below w.heap.size w W → x ∈ xs → d.K W x cs → f x = some b → Calls P g (#[enc cs] ++ lb) W fun e w' => e = .returned (.bool b) ∧ Below W.heap.size W w'
/-- The first place, from k on, whose element is as told, or -1. -/
def idxO {α : Type} (f : α → Option Bool) : List α → Int → Option Int
  | [], _ => some (-1)
  | x :: xs, k => (f x).bind fun b => if b = true then some k else idxO f xs (k + 1)
theorem idxO_step {α : Type} {f : α → Option Bool} {xs : List α} {x r : Int} (z : α) (h0 : 0 ≤ x) (h1 : x < xs.length) (h : idxO f (xs.drop x.toNat) x = some r) :
    ∃ b, f (xs.getD x.toNat z) = some b ∧ xs.getD x.toNat z ∈ xs ∧ (b = true → r = x) ∧ (b = false → idxO f (xs.drop (x + 1).toNat) (x + 1) = some r) := by
  have hl : x.toNat < xs.length := by omega
  rw [List.drop_eq_getElem_cons hl, idxO] at h
  obtain ⟨b, hb, h⟩ := Option.bind_eq_some_iff.1 h
  rw [List.getD_eq_getElem?_getD, List.getElem?_eq_getElem hl]
  refine ⟨b, hb, List.getElem_mem hl, fun e => ?_, fun e => ?_⟩
  · subst e
    rw [if_pos rfl] at h
    exact (Option.some.inj h).symm
  · subst e
    rw [show (x + 1).toNat = x.toNat + 1 by omega]
    simpa using h
theorem idxO_end {α : Type} {f : α → Option Bool} {xs : List α} {x r : Int} (h1 : ¬ x < xs.length) (h : idxO f (xs.drop x.toNat) x = some r) : r = -1 := by
  rw [List.drop_eq_nil_of_le (by omega), idxO] at h
  exact (Option.some.inj h).symm
theorem idxO_not {α : Type} {f : α → Option Bool} : ∀ {xs : List α} {b : Bool}, allO f xs = some b → ∀ k : Int, 0 ≤ k → ∃ j, idxO (fun x => (f x).map not) xs k = some j ∧ decide (j ≥ 0) = !b
  | [], b, h, k, hk => ⟨-1, rfl, by rw [← Option.some.inj h]; rfl⟩
  | x :: xs, b, h, k, hk => by
    rw [allO] at h
    obtain ⟨t, ht, h⟩ := Option.bind_eq_some_iff.1 h
    cases t with
    | true =>
      obtain ⟨j, h1, h2⟩ := idxO_not (by simpa using h) (k + 1) (by omega)
      exact ⟨j, by simp [idxO, ht, h1], h2⟩
    | false =>
      obtain rfl : false = b := by simpa using h
      exact ⟨k, by simp [idxO, ht], by simp; omega⟩
theorem CB.later {P : Program} {α : Type} {d : Kd α} {enc : List Value → Value} {g : Nat} {lb : Array Value} {f : α → Option Bool} {xs : List α} {w w1 : World} (hb : Below w.heap.size w w1) (h : CB P d enc g lb f xs w) : CB P d enc g lb f xs w1 :=
  fun W x cs b hW hm hK hf => h W x cs b (hb.trans (hW.mono hb.size)) hm hK hf
/-- What is asked of a function value that compares. -/
def CB2 (P : Program) {α : Type} (d : Kd α) (enc : List Value → Value) (g : Nat) (lb : Array Value) (f : α → α → Option Int) (xs ys : List α) (w : World) : Prop :=
  ∀ (W : World) (x y : α) (cs ds : List Value) (b : Int), Below w.heap.size w W → x ∈ xs → y ∈ ys → d.K W x cs → d.K W y ds → f x y = some b → Calls P g (#[enc cs, enc ds] ++ lb) W fun e w' => e = .returned (.int .i64 b) ∧ Below W.heap.size W w'
/-- The first place that isn't 0 told, then the shorter one. -/
def cmpO {α : Type} (f : α → α → Option Int) : List α → List α → Option Int
  | [], [] => some 0
  | [], _ :: _ => some (-1)
  | _ :: _, [] => some 1
  | x :: xs, y :: ys => (f x y).bind fun c => if c = 0 then cmpO f xs ys else some c
theorem cmpO_step {α : Type} {f : α → α → Option Int} {xs ys : List α} {x r : Int} (z : α) (h0 : 0 ≤ x) (h1 : x < xs.length) (h2 : x < ys.length) (h : cmpO f (xs.drop x.toNat) (ys.drop x.toNat) = some r) :
    ∃ b, f (xs.getD x.toNat z) (ys.getD x.toNat z) = some b ∧ xs.getD x.toNat z ∈ xs ∧ ys.getD x.toNat z ∈ ys ∧ (b ≠ 0 → r = b) ∧ (b = 0 → cmpO f (xs.drop (x + 1).toNat) (ys.drop (x + 1).toNat) = some r) := by
  have hl : x.toNat < xs.length := by omega
  have hm : x.toNat < ys.length := by omega
  rw [List.drop_eq_getElem_cons hl, List.drop_eq_getElem_cons hm, cmpO] at h
  obtain ⟨b, hb, h⟩ := Option.bind_eq_some_iff.1 h
  rw [List.getD_eq_getElem?_getD, List.getElem?_eq_getElem hl, List.getD_eq_getElem?_getD, List.getElem?_eq_getElem hm]
  refine ⟨b, hb, List.getElem_mem hl, List.getElem_mem hm, fun e => ?_, fun e => ?_⟩
  · rw [if_neg e] at h
    exact (Option.some.inj h).symm
  · rw [show (x + 1).toNat = x.toNat + 1 by omega]
    rwa [if_pos e] at h
theorem cmpO_right {α : Type} {f : α → α → Option Int} {xs ys : List α} {x r : Int} (h1 : x < xs.length) (h2 : ¬ x < ys.length) (h0 : 0 ≤ x) (h : cmpO f (xs.drop x.toNat) (ys.drop x.toNat) = some r) : r = 1 := by
  have hl : x.toNat < xs.length := by omega
  rw [List.drop_eq_getElem_cons hl, show ys.drop x.toNat = [] from List.drop_eq_nil_of_le (by omega), cmpO] at h
  exact (Option.some.inj h).symm
theorem cmpO_left {α : Type} {f : α → α → Option Int} {xs ys : List α} {x r : Int} (h1 : ¬ x < xs.length) (h2 : x < ys.length) (h0 : 0 ≤ x) (h : cmpO f (xs.drop x.toNat) (ys.drop x.toNat) = some r) : r = -1 := by
  have hm : x.toNat < ys.length := by omega
  rw [List.drop_eq_getElem_cons hm, show xs.drop x.toNat = [] from List.drop_eq_nil_of_le (by omega), cmpO] at h
  exact (Option.some.inj h).symm
theorem cmpO_end {α : Type} {f : α → α → Option Int} {xs ys : List α} {x r : Int} (h1 : ¬ x < xs.length) (h2 : ¬ x < ys.length) (h : cmpO f (xs.drop x.toNat) (ys.drop x.toNat) = some r) : r = 0 := by
  rw [show xs.drop x.toNat = [] from List.drop_eq_nil_of_le (by omega), show ys.drop x.toNat = [] from List.drop_eq_nil_of_le (by omega), cmpO] at h
  exact (Option.some.inj h).symm
theorem Addr_lt {W : World} {a : Addr} {v : Value} (h : W.cell? a = some v) : a.block < W.heap.size := by
  unfold World.cell? at h
  cases hb : W.heap[a.block]? with
  | none => simp [hb] at h
  | some o => exact (Array.getElem?_eq_some_iff.1 hb).1
theorem cell_alloc_old {W : World} {a : Addr} {v : Value} (o : Obj) (h : W.cell? a = some v) : (W.alloc o).cell? a = some v := by
  have hlt := Addr_lt h
  have hb := heap_alloc_old W o hlt
  unfold World.cell? at h ⊢
  rw [hb]
  exact h
theorem leO_map {α β : Type} {f g : Option α} {m : α → β} (h : LeO f g) : LeO (f.map m) (g.map m) := by
  intro r hr
  obtain ⟨a, ha, rfl⟩ := Option.map_eq_some_iff.1 hr
  rw [h a ha, Option.map_some]
theorem idxO_mono {α : Type} {f g : α → Option Bool} (h : ∀ x, LeO (f x) (g x)) : ∀ l k, LeO (idxO f l k) (idxO g l k)
  | [], _ => LeO.refl _
  | x :: xs, k => LeO.bind (h x) fun _ => LeO.ite (LeO.refl _) (idxO_mono h xs (k + 1))
theorem allO_mono {α : Type} {f g : α → Option Bool} (h : ∀ x, LeO (f x) (g x)) : ∀ l, LeO (allO f l) (allO g l)
  | [] => LeO.refl _
  | x :: xs => LeO.bind (h x) fun _ => LeO.ite (allO_mono h xs) (LeO.refl _)
end Go.Proofs.YtapgfamppnhnmaaW.PrintMore
