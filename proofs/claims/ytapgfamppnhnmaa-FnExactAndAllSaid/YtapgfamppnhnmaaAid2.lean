/- More of the small lemmas that this session's own contracts use: every program, every numbering. -/
import Derived.Test.YtapgfamppnhnmaaAid
import Derived.Sort.Grow
namespace Go.Proofs.YtapgfamppnhnmaaW.PrintMore
open Go.RowKit Go.Proofs.YtapgfamppnhnmaaW.PrintWords Go.Proofs.YtapgfamppnhnmaaW.PrintLast
/-- What is asked of a function value that tells of two elements whether they are as told. -/
def CBE (P : Program) {α β : Type} (d : Kd α) (d' : Kd β) (g : Nat) (lb : Array Value) (f : α → β → Option Bool) (xs : List α) (ys : List β) (w : World) : Prop :=
  ∀ (W : World) (x : α) (y : β) (cs ds : List Value) (b : Bool), Below w.heap.size w W → x ∈ xs → y ∈ ys → d.K W x cs → d'.K W y ds → f x y = some b → Calls P g (#[Value.agg cs.toArray, Value.agg ds.toArray] ++ lb) W fun e w' => e = .returned (.bool b) ∧ Below W.heap.size W w'
/-- Place by place, as far as both go. -/
def eqO {α β : Type} (f : α → β → Option Bool) : List α → List β → Option Bool
  | x :: xs, y :: ys => (f x y).bind fun b => if b = true then eqO f xs ys else some false
  | [], _ => some true
  | _ :: _, [] => some true
def equalO {α β : Type} (f : α → β → Option Bool) (xs : List α) (ys : List β) : Option Bool := if xs.length = ys.length then eqO f xs ys else some false
theorem eqO_step {α β : Type} {f : α → β → Option Bool} {xs : List α} {ys : List β} {x : Int} {r : Bool} (z : α) (z' : β) (h0 : 0 ≤ x) (h1 : x < xs.length) (h2 : x < ys.length) (h : eqO f (xs.drop x.toNat) (ys.drop x.toNat) = some r) :
    ∃ b, f (xs.getD x.toNat z) (ys.getD x.toNat z') = some b ∧ xs.getD x.toNat z ∈ xs ∧ ys.getD x.toNat z' ∈ ys ∧ (b = false → r = false) ∧ (b = true → eqO f (xs.drop (x + 1).toNat) (ys.drop (x + 1).toNat) = some r) := by
  have hl : x.toNat < xs.length := by omega
  have hm : x.toNat < ys.length := by omega
  rw [List.drop_eq_getElem_cons hl, List.drop_eq_getElem_cons hm, eqO] at h
  obtain ⟨b, hb, h⟩ := Option.bind_eq_some_iff.1 h
  rw [List.getD_eq_getElem?_getD, List.getElem?_eq_getElem hl, List.getD_eq_getElem?_getD, List.getElem?_eq_getElem hm]
  refine ⟨b, hb, List.getElem_mem hl, List.getElem_mem hm, fun e => ?_, fun e => ?_⟩
  · subst e
    simpa using h.symm
  · rw [show (x + 1).toNat = x.toNat + 1 by omega]
    rwa [if_pos e] at h
theorem eqO_end {α β : Type} {f : α → β → Option Bool} {xs : List α} {ys : List β} {x : Int} {r : Bool} (h1 : ¬ x < xs.length) (h : eqO f (xs.drop x.toNat) (ys.drop x.toNat) = some r) : r = true := by
  rw [show xs.drop x.toNat = [] from List.drop_eq_nil_of_le (by omega)] at h
  cases hd : ys.drop x.toNat with
  | nil => rw [hd, eqO] at h; exact (Option.some.inj h).symm
  | cons a l => rw [hd, eqO] at h; exact (Option.some.inj h).symm
theorem eqO_mono {α β : Type} {f g : α → β → Option Bool} (h : ∀ x y, LeO (f x y) (g x y)) : ∀ l l', LeO (eqO f l l') (eqO g l l')
  | x :: xs, y :: ys => LeO.bind (h x y) fun _ => LeO.ite (eqO_mono h xs ys) (LeO.refl _)
  | [], [] => LeO.refl _
  | [], _ :: _ => LeO.refl _
  | _ :: _, [] => LeO.refl _
theorem bytesLess_or_eq : ∀ a b : List UInt8, (Op.bytesLess a b || a == b) = !Op.bytesLess b a
  | [], [] => rfl
  | [], _ :: _ => rfl
  | _ :: _, [] => rfl
  | x :: a, y :: b => by
    have ih := bytesLess_or_eq a b
    simp only [Op.bytesLess, List.cons_beq_cons]
    by_cases h : x < y
    · have h' : ¬ y < x := fun g => by have := UInt8.lt_iff_toNat_lt.1 h; have := UInt8.lt_iff_toNat_lt.1 g; omega
      have e : ¬ y = x := fun e => by subst e; exact h' h
      simp [h, h', e]
    · by_cases h' : y < x
      · have e : ¬ x = y := fun e => by subst e; exact h h'
        simp [h, h', e]
      · have e : x = y := by
          apply UInt8.toNat_inj.1
          have h1 : ¬ x.toNat < y.toNat := h
          have h2 : ¬ y.toNat < x.toNat := h'
          omega
        subst e
        simp [h, ← ih]
theorem geq_str (t : TypeId) (a b : ByteArray) : binOp .geq t (.string a) (.string b) = pure (.bool !(Op.bytesLess a.toList b.toList)) := by simp [binOp, Op.stringOp]
theorem leq_str (t : TypeId) (a b : ByteArray) : binOp .leq t (.string a) (.string b) = pure (.bool !(Op.bytesLess b.toList a.toList)) := by
  rw [← bytesLess_or_eq]
  simp [binOp, Op.stringOp]
theorem below_grow_drewN (w : World) (k : Nat) (os : Array Obj) : Below w.heap.size w (Go.Sort.grow (w.drewN k) os) :=
  ⟨rfl, rfl, rfl, by simp [Go.Sort.grow], fun i hi => by simp [Go.Sort.grow, Array.getElem?_append, hi]⟩
theorem var_later {P : Program} {w w' : World} {n : String} {cs : Array Value} (h : w.var? P n = some cs) (hb : Aside0 (Below w.heap.size w w')) : w'.var? P n = some cs := by
  unfold World.var? at h ⊢
  obtain ⟨g, hg, h⟩ := Option.bind_eq_some_iff.1 h
  rw [hg]
  cases ho : w.heap[g]? with
  | none => simp [ho] at h
  | some o =>
    have hlt : g < w.heap.size := (Array.getElem?_eq_some_iff.1 ho).1
    have e := hb.out.block g hlt
    simp only [Option.bind_some, e]
    exact h
end Go.Proofs.YtapgfamppnhnmaaW.PrintMore
