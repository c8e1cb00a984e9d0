/- Whatever reads as data of a type is of the kind that the printed functions take, with its bounds: by kinds, every program, every numbering. -/
import Derived.Test.YtnobhkmpkichdaaGreatWWords
import Derived.Test.YtnobhkmpkichdaaGreatWLast
import Derived.Deep.Slices
import Derived.ChangeArms
import Derived.ChangeShapes
import Derived.HandedShaped
namespace Go.Proofs.YtnobhkmpkichdaaGreatOpen
open Go.RowKit Go.ChangeShapes Go.WideShapes Go.Proofs.YtnobhkmpkichdaaGreatW.PrintWords
structure aDu (P : Program) (n : Nat) (t : TypeId) {α : Type} (d : Kd α) (B : α → Prop) : Prop where mk ::
 out : ∀ (H : Type) (enc : TypeId × Value → H) (w : World) (base : Nat) (spare : Nat → Bool) (held : Bool) (fuel : Nat) (cs : List Value) (x : DataW H × List MemPlace),
  fuel ≤ n → DataW.trod enc P w base spare held fuel t cs = some x → ∃ y, d.K w y cs ∧ B y
theorem aDu.le {P : Program} {n m : Nat} {t : TypeId} {α : Type} {d : Kd α} {B : α → Prop} (h : aDu P n t d B) (hm : m ≤ n) : aDu P m t d B :=
 ⟨fun H enc w base spare held fuel cs x hf hx => h.out H enc w base spare held fuel cs x (Nat.le_trans hf hm) hx⟩
theorem aDu.imp {P : Program} {n : Nat} {t : TypeId} {α : Type} {d : Kd α} {B B' : α → Prop} (h : aDu P n t d B) (hb : ∀ x, B x → B' x) : aDu P n t d B' :=
 ⟨fun H enc w base spare held fuel cs x hf hx => by
  obtain ⟨y, hk, hy⟩ := h.out H enc w base spare held fuel cs x hf hx
  exact ⟨y, hk, hb y hy⟩⟩
def I64 (n : Int) : Prop := -9223372036854775808 ≤ n ∧ n ≤ 9223372036854775807
def Len (n : Nat) : Prop := n ≤ 9223372036854775807
theorem aRj {P : Program} {n : Nat} {t : TypeId} {k : IntKind} (ht : P.underlying t = some (.int k)) : aDu P n t (Kd.int k) (fun x => (Lit.int k x).wf = true) := by
 refine ⟨?_⟩
 intro H enc w base spare held fuel cs x _ hx
 obtain ⟨a, hc, _, wa⟩ := DataW.trod_int ht hx
 exact ⟨a, hc, wa⟩
theorem aRu {x : Int} (h : (Lit.int .i64 x).wf = true) : I64 x := by
 have h : (-9223372036854775808 ≤ x ∧ x ≤ 9223372036854775807) := by simpa [Lit.wf, IntKind.min, IntKind.max, IntKind.bits, IntKind.signed] using h
 exact h
theorem aEd {P : Program} {n : Nat} {t : TypeId} (ht : P.underlying t = some (.int .i64)) : aDu P n t (Kd.int .i64) I64 :=
 aDu.imp (aRj ht) fun _ hx => aRu hx
theorem aEb {P : Program} {n : Nat} {t : TypeId} (ht : P.underlying t = some .string) : aDu P n t Kd.string (fun s => Len s.size) := by
 refine ⟨?_⟩
 intro H enc w base spare held fuel cs x _ hx
 obtain ⟨s, hc, _, hs⟩ := DataW.trod_string ht hx
 exact ⟨s, hc, hs⟩
theorem aHc {α : Type} {n : Nat} {f : Nat → Option α} {l : List α} (h : (List.range n).mapM f = some l) : l.length = n ∧ ∀ i, i < n → ∃ y, l[i]? = some y ∧ f i = some y := by
 induction n generalizing l with
 | zero =>
  simp at h
  subst h
  exact ⟨rfl, fun i hi => absurd hi (Nat.not_lt_zero _)⟩
 | succ n ih =>
  rw [List.range_succ, List.mapM_append] at h
  simp only [List.mapM_cons, List.mapM_nil, Option.pure_def, Option.bind_eq_bind, Option.bind_eq_some_iff, Option.some.injEq] at h
  obtain ⟨l0, h0, l1, ⟨y, hy, _, rfl, rfl⟩, rfl⟩ := h
  obtain ⟨hl, hi⟩ := ih h0
  refine ⟨by simp [hl], fun i hlt => ?_⟩
  rcases Nat.lt_succ_iff_lt_or_eq.1 hlt with hlt | rfl
  ·obtain ⟨z, hz, hf⟩ := hi i hlt
   exact ⟨z, by rw [List.getElem?_append_left (by omega)]; exact hz, hf⟩
  ·exact ⟨y, by rw [List.getElem?_append_right (by omega)]; simp [hl], hy⟩
theorem aQw {w : World} {base : Nat} {a : Addr} {n : Nat} {cs : List Value} (h : w.cells? base a n = some cs) : cs.length = n ∧ ∀ i u, cs[i]? = some u → w.cell? (a.add i) = some u := by
 unfold World.cells? at h
 split at h
 ·obtain ⟨hl, hi⟩ := aHc h
  refine ⟨hl, fun i u hu => ?_⟩
  have hlt : i < n := by
   have := (List.getElem?_eq_some_iff.1 hu).1
   omega
  obtain ⟨y, hy, hf⟩ := hi i hlt
  rw [hu] at hy
  rw [hf, ← Option.some.inj hy]
 ·cases h
theorem aDm {P : Program} {n : Nat} {t e : TypeId} {α : Type} [Inhabited α] {d : Kd α} {B : α → Prop} (ht : P.underlying t = some (.slice e)) (hc : P.cellsOf e = d.sz) (h : aDu P n e d B) :
  aDu P (n + 1) t (Kd.slice e d) (fun xs => Len xs.length ∧ ∀ x ∈ xs, B x) := by
 refine ⟨?_⟩
 intro H enc w base spare held fuel cs x hf hx
 rcases DataW.trod_slice ht hx with ⟨rfl, _⟩ | ⟨a, len, cap, elems, rest, n', rfl, rfl, _, _, hl, hm, hlen, hel, _, _⟩
 ·exact ⟨[], ⟨none, 0, rfl, Nat.le_refl _, rfl, by simp, fun h0 => absurd h0 (Nat.lt_irrefl _)⟩, by simp [Len], fun x hx => by cases hx⟩
 ·have step : ∀ i, i < len → ∃ y : α, B y ∧ ∃ c, c.length = d.sz ∧ d.K w y c ∧ ∀ j u, c[j]? = some u → w.cell? (a.add (i * d.sz + j)) = some u := by
   intro i hi
   have he := hel i hi
   rw [List.getElem?_eq_getElem (by omega)] at he
   obtain ⟨c, hcell, htr⟩ := Option.bind_eq_some_iff.1 he
   obtain ⟨y, hk, hy⟩ := h.out H enc w base spare held n' c _ (by omega) htr
   obtain ⟨hlen, hget⟩ := aQw hcell
   refine ⟨y, hy, c, by omega, hk, fun j u hu => ?_⟩
   have := hget j u hu
   rw [Go.Deep.add_add, hc] at this
   exact this
  obtain ⟨f, hfi⟩ := Go.Deep.choose_lt step
  refine ⟨(List.range len).map f, ⟨some a, cap, by simp, by simpa using hl, by simp, ?_, fun _ => ⟨a, rfl, fun j p hj => ?_⟩⟩, ?_, ?_⟩
  ·have : cap ≤ 9223372036854775807 := hm
   simp
   omega
  ·have hlt : j < len := by
    have := (List.getElem?_eq_some_iff.1 hj).1
    simpa using this
   have hp : f j = p := by
    rw [List.getElem?_map, List.getElem?_range hlt] at hj
    exact Option.some.inj hj
   subst hp
   exact (hfi j hlt).2
  ·have : cap ≤ 9223372036854775807 := hm
   simp [Len]
   omega
  ·intro x hx
   obtain ⟨i, hi, rfl⟩ := List.mem_map.1 hx
   exact (hfi i (List.mem_range.1 hi)).1
structure Fields (P : Program) (n : Nat) (o : Nat) (fs : List Field) {α : Type} (d : Kd α) (B : α → Prop) : Prop where mk ::
 out : ∀ (H : Type) (enc : TypeId × Value → H) (w : World) (base : Nat) (spare : Nat → Bool) (held : Bool) (fuel : Nat) (cs : List Value) (xs : List (DataW H × List MemPlace)),
  fuel ≤ n → cs.length = o + d.sz → (fs.mapM fun f => DataW.trod enc P w base spare held fuel f.type ((cs.drop f.offset).take (P.cellsOf f.type))) = some xs → ∃ y, d.K w y (cs.drop o) ∧ B y
theorem aDx {P : Program} {n o : Nat} {f : Field} {α : Type} {d : Kd α} {B : α → Prop} (h : aDu P n f.type d B) (ho : f.offset = o) (hc : P.cellsOf f.type = d.sz) : Fields P n o [f] d B := by
 refine ⟨?_⟩
 intro H enc w base spare held fuel cs xs hf hl hx
 simp only [List.mapM_cons, List.mapM_nil, Option.pure_def, Option.bind_eq_bind, Option.bind_eq_some_iff] at hx
 obtain ⟨y, hy, _⟩ := hx
 rw [ho, hc, List.take_of_length_le (by rw [List.length_drop]; omega)] at hy
 exact h.out H enc w base spare held fuel _ y hf hy
theorem aBs {P : Program} {n o : Nat} {f : Field} {fs : List Field} {α β : Type} {d : Kd α} {d' : Kd β} {B : α → Prop} {B' : β → Prop} (h : aDu P n f.type d B) (ho : f.offset = o) (hc : P.cellsOf f.type = d.sz)
  (h' : Fields P n (o + d.sz) fs d' B') : Fields P n o (f :: fs) (Kd.pair d d') (fun x => B x.1 ∧ B' x.2) := by
 refine ⟨?_⟩
 intro H enc w base spare held fuel cs xs hf hl hx
 have hsz : (Kd.pair d d').sz = d.sz + d'.sz := rfl
 rw [hsz] at hl
 simp only [List.mapM_cons, Option.pure_def, Option.bind_eq_bind, Option.bind_eq_some_iff] at hx
 obtain ⟨y, hy, ys, hys, _⟩ := hx
 rw [ho, hc] at hy
 obtain ⟨z, hz, hb⟩ := h.out H enc w base spare held fuel _ y hf hy
 obtain ⟨z', hz', hb'⟩ := h'.out H enc w base spare held fuel cs ys hf (by omega) hys
 refine ⟨(z, z'), ⟨_, _, ?_, hz, hz'⟩, hb, hb'⟩
 rw [← List.drop_drop, List.take_append_drop]
theorem aDb {P : Program} {n : Nat} {t : TypeId} {fs : Array Field} {α β : Type} {d : Kd α} {B : α → Prop} (f : β → α) (g : α → β) (hfg : ∀ x, f (g x) = x) (ht : P.underlying t = some (.struct fs)) (hc : P.cellsOf t = d.sz)
  (h : Fields P n 0 fs.toList d B) : aDu P (n + 1) t (Kd.iso d f) (fun x => B (f x)) := by
 refine ⟨?_⟩
 intro H enc w base spare held fuel cs x hf hx
 cases fuel with
 | zero => simp [DataW.trod] at hx
 | succ fuel =>
  unfold DataW.trod at hx
  rw [ht] at hx
  dsimp only at hx
  split at hx
  ·rename_i hl
   simp only [Option.map_eq_some_iff] at hx
   obtain ⟨xs, hxs, _⟩ := hx
   obtain ⟨y, hk, hb⟩ := h.out H enc w base spare held fuel cs xs (by omega) (by rw [hl, hc, Nat.zero_add]) hxs
   rw [List.drop_zero] at hk
   refine ⟨g y, ?_, by show B (f (g y)); rw [hfg]; exact hb⟩
   show d.K w (f (g y)) cs
   rw [hfg]
   exact hk
  ·cases hx
theorem aDu.at_ {P : Program} {t : TypeId} {α : Type} {d : Kd α} {B : α → Prop} (h : ∀ n, aDu P n t d B) {H : Type} {enc : TypeId × Value → H} {w : World} {base : Nat} {spare : Nat → Bool} {held : Bool} {v : Value} {x : DataW H} {ps : List MemPlace}
  (hx : DataW.Trod enc P w base spare held t v x ps) : ∃ y, d.K w y v.cells.toList ∧ B y := by
 obtain ⟨fuel, hf⟩ := hx
 exact (h fuel).out H enc w base spare held fuel _ _ (Nat.le_refl _) hf
end Go.Proofs.YtnobhkmpkichdaaGreatOpen
