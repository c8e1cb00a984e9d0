/- Whatever reads as data of a type is of the kind that the printed functions take, with its bounds: by kinds, every program, every numbering. -/
import Derived.Test.YtapgfamppnhnmaaWWords
import Derived.Test.YtapgfamppnhnmaaWLast
import Derived.Deep.Slices
import Derived.ChangeArms
import Derived.ChangeShapes
import Derived.HandedShaped
namespace Go.Proofs.YtapgfamppnhnmaaOpen
open Go.RowKit Go.ChangeShapes Go.WideShapes Go.Proofs.YtapgfamppnhnmaaW.PrintWords

/-- Every reading of type t with at most n fuel is of kind d, and B is so of it. -/
structure Opens (P : Program) (n : Nat) (t : TypeId) {α : Type} (d : Kd α) (B : α → Prop) : Prop where mk ::
  out : ∀ (H : Type) (enc : TypeId × Value → H) (w : World) (base : Nat) (spare : Nat → Bool) (held : Bool) (fuel : Nat) (cs : List Value) (x : DataW H × List MemPlace),
    fuel ≤ n → DataW.trod enc P w base spare held fuel t cs = some x → ∃ y, d.K w y cs ∧ B y

theorem Opens.le {P : Program} {n m : Nat} {t : TypeId} {α : Type} {d : Kd α} {B : α → Prop} (h : Opens P n t d B) (hm : m ≤ n) : Opens P m t d B :=
  ⟨fun H enc w base spare held fuel cs x hf hx => h.out H enc w base spare held fuel cs x (Nat.le_trans hf hm) hx⟩

theorem Opens.imp {P : Program} {n : Nat} {t : TypeId} {α : Type} {d : Kd α} {B B' : α → Prop} (h : Opens P n t d B) (hb : ∀ x, B x → B' x) : Opens P n t d B' :=
  ⟨fun H enc w base spare held fuel cs x hf hx => by
    obtain ⟨y, hk, hy⟩ := h.out H enc w base spare held fuel cs x hf hx
    exact ⟨y, hk, hb y hy⟩⟩

/-- A number of 64 bits. -/
def I64 (n : Int) : Prop := -9223372036854775808 ≤ n ∧ n ≤ 9223372036854775807
/-- A text or a list is no longer than the model's lengths go. -/
def Len (n : Nat) : Prop := n ≤ 9223372036854775807

theorem opens_int {P : Program} {n : Nat} {t : TypeId} {k : IntKind} (ht : P.underlying t = some (.int k)) : Opens P n t (Kd.int k) (fun x => (Lit.int k x).wf = true) := by
  refine ⟨?_⟩
  intro H enc w base spare held fuel cs x _ hx
  obtain ⟨a, hc, _, wa⟩ := DataW.trod_int ht hx
  exact ⟨a, hc, wa⟩

theorem i64_of_wf {x : Int} (h : (Lit.int .i64 x).wf = true) : I64 x := by
  have h : (-9223372036854775808 ≤ x ∧ x ≤ 9223372036854775807) := by simpa [Lit.wf, IntKind.min, IntKind.max, IntKind.bits, IntKind.signed] using h
  exact h

theorem opens_i64 {P : Program} {n : Nat} {t : TypeId} (ht : P.underlying t = some (.int .i64)) : Opens P n t (Kd.int .i64) I64 :=
  Opens.imp (opens_int ht) fun _ hx => i64_of_wf hx

theorem opens_bool {P : Program} {n : Nat} {t : TypeId} (ht : P.underlying t = some .bool) : Opens P n t Kd.bool (fun _ => True) := by
  refine ⟨?_⟩
  intro H enc w base spare held fuel cs x _ hx
  obtain ⟨a, hc, _⟩ := DataW.trod_bool ht hx
  exact ⟨a, hc, trivial⟩

theorem opens_string {P : Program} {n : Nat} {t : TypeId} (ht : P.underlying t = some .string) : Opens P n t Kd.string (fun s => Len s.size) := by
  refine ⟨?_⟩
  intro H enc w base spare held fuel cs x _ hx
  obtain ⟨s, hc, _, hs⟩ := DataW.trod_string ht hx
  exact ⟨s, hc, hs⟩

theorem mapM_range_getElem {α : Type} {n : Nat} {f : Nat → Option α} {l : List α} (h : (List.range n).mapM f = some l) : l.length = n ∧ ∀ i, i < n → ∃ y, l[i]? = some y ∧ f i = some y := by
  induction n generalizing l with
  | zero =>
    simp at h
    subst h
    exact ⟨rfl, fun i hi => absurd hi (Nat.not_lt_zero _)⟩
  | succ n ih =>
    rw [List.range_succ, List.mapM_append] at h
    simp only [List.mapM_cons, List.mapM_nil, Option.pure_def, Option.bind_eq_bind, Option.bind_eq_some_iff, Option.some.injEq] at h
    obtain ⟨l0, h0, l1, ⟨y, hy, _, rfl, rfl⟩, rfl⟩ := h
    obtain ⟨hl, hi⟩ := ih h0
    refine ⟨by simp [hl], fun i hlt => ?_⟩
    rcases Nat.lt_succ_iff_lt_or_eq.1 hlt with hlt | rfl
    · obtain ⟨z, hz, hf⟩ := hi i hlt
      exact ⟨z, by rw [List.getElem?_append_left (by omega)]; exact hz, hf⟩
    · exact ⟨y, by rw [List.getElem?_append_right (by omega)]; simp [hl], hy⟩

theorem cells_get {w : World} {base : Nat} {a : Addr} {n : Nat} {cs : List Value} (h : w.cells? base a n = some cs) : cs.length = n ∧ ∀ i u, cs[i]? = some u → w.cell? (a.add i) = some u := by
  unfold World.cells? at h
  split at h
  · obtain ⟨hl, hi⟩ := mapM_range_getElem h
    refine ⟨hl, fun i u hu => ?_⟩
    have hlt : i < n := by
      have := (List.getElem?_eq_some_iff.1 hu).1
      omega
    obtain ⟨y, hy, hf⟩ := hi i hlt
    rw [hu] at hy
    rw [hf, ← Option.some.inj hy]
  · cases h

theorem opens_slice {P : Program} {n : Nat} {t e : TypeId} {α : Type} [Inhabited α] {d : Kd α} {B : α → Prop} (ht : P.underlying t = some (.slice e)) (hc : P.cellsOf e = d.sz) (h : Opens P n e d B) :
    Opens P (n + 1) t (Kd.slice e d) (fun xs => Len xs.length ∧ ∀ x ∈ xs, B x) := by
  refine ⟨?_⟩
  intro H enc w base spare held fuel cs x hf hx
  rcases DataW.trod_slice ht hx with ⟨rfl, _⟩ | ⟨a, len, cap, elems, rest, n', rfl, rfl, _, _, hl, hm, hlen, hel, _, _⟩
  · exact ⟨[], ⟨none, 0, rfl, Nat.le_refl _, rfl, by simp, fun h0 => absurd h0 (Nat.lt_irrefl _)⟩, by simp [Len], fun x hx => by cases hx⟩
  · have step : ∀ i, i < len → ∃ y : α, B y ∧ ∃ c, c.length = d.sz ∧ d.K w y c ∧ ∀ j u, c[j]? = some u → w.cell? (a.add (i * d.sz + j)) = some u := by
      intro i hi
      have he := hel i hi
      rw [List.getElem?_eq_getElem (by omega)] at he
      obtain ⟨c, hcell, htr⟩ := Option.bind_eq_some_iff.1 he
      obtain ⟨y, hk, hy⟩ := h.out H enc w base spare held n' c _ (by omega) htr
      obtain ⟨hlen, hget⟩ := cells_get hcell
      refine ⟨y, hy, c, by omega, hk, fun j u hu => ?_⟩
      have := hget j u hu
      rw [Go.Deep.add_add, hc] at this
      exact this
    obtain ⟨f, hfi⟩ := Go.Deep.choose_lt step
    refine ⟨(List.range len).map f, ⟨some a, cap, by simp, by simpa using hl, by simp, ?_, fun _ => ⟨a, rfl, fun j p hj => ?_⟩⟩, ?_, ?_⟩
    · have : cap ≤ 9223372036854775807 := hm
      simp
      omega
    · have hlt : j < len := by
        have := (List.getElem?_eq_some_iff.1 hj).1
        simpa using this
      have hp : f j = p := by
        rw [List.getElem?_map, List.getElem?_range hlt] at hj
        exact Option.some.inj hj
      subst hp
      exact (hfi j hlt).2
    · have : cap ≤ 9223372036854775807 := hm
      simp [Len]
      omega
    · intro x hx
      obtain ⟨i, hi, rfl⟩ := List.mem_map.1 hx
      exact (hfi i (List.mem_range.1 hi)).1

/-! ### structs, field by field -/
/-- The fields from offset o on are of kind d, in line. -/
structure Fields (P : Program) (n : Nat) (o : Nat) (fs : List Field) {α : Type} (d : Kd α) (B : α → Prop) : Prop where mk ::
  out : ∀ (H : Type) (enc : TypeId × Value → H) (w : World) (base : Nat) (spare : Nat → Bool) (held : Bool) (fuel : Nat) (cs : List Value) (xs : List (DataW H × List MemPlace)),
    fuel ≤ n → cs.length = o + d.sz → (fs.mapM fun f => DataW.trod enc P w base spare held fuel f.type ((cs.drop f.offset).take (P.cellsOf f.type))) = some xs → ∃ y, d.K w y (cs.drop o) ∧ B y

theorem fields_one {P : Program} {n o : Nat} {f : Field} {α : Type} {d : Kd α} {B : α → Prop} (h : Opens P n f.type d B) (ho : f.offset = o) (hc : P.cellsOf f.type = d.sz) : Fields P n o [f] d B := by
  refine ⟨?_⟩
  intro H enc w base spare held fuel cs xs hf hl hx
  simp only [List.mapM_cons, List.mapM_nil, Option.pure_def, Option.bind_eq_bind, Option.bind_eq_some_iff] at hx
  obtain ⟨y, hy, _⟩ := hx
  rw [ho, hc, List.take_of_length_le (by rw [List.length_drop]; omega)] at hy
  exact h.out H enc w base spare held fuel _ y hf hy

theorem fields_cons {P : Program} {n o : Nat} {f : Field} {fs : List Field} {α β : Type} {d : Kd α} {d' : Kd β} {B : α → Prop} {B' : β → Prop} (h : Opens P n f.type d B) (ho : f.offset = o) (hc : P.cellsOf f.type = d.sz)
    (h' : Fields P n (o + d.sz) fs d' B') : Fields P n o (f :: fs) (Kd.pair d d') (fun x => B x.1 ∧ B' x.2) := by
  refine ⟨?_⟩
  intro H enc w base spare held fuel cs xs hf hl hx
  have hsz : (Kd.pair d d').sz = d.sz + d'.sz := rfl
  rw [hsz] at hl
  simp only [List.mapM_cons, Option.pure_def, Option.bind_eq_bind, Option.bind_eq_some_iff] at hx
  obtain ⟨y, hy, ys, hys, _⟩ := hx
  rw [ho, hc] at hy
  obtain ⟨z, hz, hb⟩ := h.out H enc w base spare held fuel _ y hf hy
  obtain ⟨z', hz', hb'⟩ := h'.out H enc w base spare held fuel cs ys hf (by omega) hys
  refine ⟨(z, z'), ⟨_, _, ?_, hz, hz'⟩, hb, hb'⟩
  rw [← List.drop_drop, List.take_append_drop]

theorem opens_struct {P : Program} {n : Nat} {t : TypeId} {fs : Array Field} {α β : Type} {d : Kd α} {B : α → Prop} (f : β → α) (g : α → β) (hfg : ∀ x, f (g x) = x) (ht : P.underlying t = some (.struct fs)) (hc : P.cellsOf t = d.sz)
    (h : Fields P n 0 fs.toList d B) : Opens P (n + 1) t (Kd.iso d f) (fun x => B (f x)) := by
  refine ⟨?_⟩
  intro H enc w base spare held fuel cs x hf hx
  cases fuel with
  | zero => simp [DataW.trod] at hx
  | succ fuel =>
    unfold DataW.trod at hx
    rw [ht] at hx
    dsimp only at hx
    split at hx
    · rename_i hl
      simp only [Option.map_eq_some_iff] at hx
      obtain ⟨xs, hxs, _⟩ := hx
      obtain ⟨y, hk, hb⟩ := h.out H enc w base spare held fuel cs xs (by omega) (by rw [hl, hc, Nat.zero_add]) hxs
      rw [List.drop_zero] at hk
      refine ⟨g y, ?_, by show B (f (g y)); rw [hfg]; exact hb⟩
      show d.K w (f (g y)) cs
      rw [hfg]
      exact hk
    · cases hx

/-- One argument: its value and its kind. -/
theorem Opens.at_ {P : Program} {t : TypeId} {α : Type} {d : Kd α} {B : α → Prop} (h : ∀ n, Opens P n t d B) {H : Type} {enc : TypeId × Value → H} {w : World} {base : Nat} {spare : Nat → Bool} {held : Bool} {v : Value} {x : DataW H} {ps : List MemPlace}
    (hx : DataW.Trod enc P w base spare held t v x ps) : ∃ y, d.K w y v.cells.toList ∧ B y := by
  obtain ⟨fuel, hf⟩ := hx
  exact (h fuel).out H enc w base spare held fuel _ _ (Nat.le_refl _) hf

theorem agg_of_okWide {P : Program} {t : TypeId} {fs : Array Field} (ht : P.underlying t = some (.struct fs)) {w : World} {r : Reach} {base : Nat} {v : Value} (h : Value.okWide P w r base t v) : ∃ cs, v = .agg cs := by
  unfold Value.okWide at h
  rw [ht] at h
  obtain ⟨cs, rfl, _⟩ := h
  exact ⟨cs, rfl⟩

/-- The wrap of a row that lists variables, with the world's shape besides. -/
theorem returns_both {H : Type} {enc : TypeId × Value → H} {a : Assume} {C : Checked} {os : Os} {f : FuncId} {fn : Func} {s : ChangeSpec} {conds : List PathCond} {apart fresh handsOn again : Bool} {X : World → Array Value → Prop}
    (hX : ∀ (w w' : World) (args : Array Value), w.heap = w'.heap → X w args → X w' args)
    (own : ownKnob C.prog.godebug = none) (started : os.Started) (noInit : C.prog.inits.idxOf? f = none) (hfn : C.prog.funcs[f]? = some fn)
    (witness : ∃ (w : World) (tape : Tape) (i : Input), w.os = os ∧ (w.forCall tape i).Shaped C.prog ∧ i.vars = [] ∧ Input.okWide C.prog (w.forCall tape i) .any w.heap.size f i ∧
      ((s.pre enc C.prog fn conds apart (w.forCall tape i).memory i.args ∧ X (w.forCall tape i).memory i.args) ∧ sizedMet enc C.prog fn (OpenSpec.ofChange s) apart (w.forCall tape i).memory i.args) ∧ a.holds C.prog (lone (Frame.enter C.prog f i.args .normal) [] (w.forCall tape i)))
    (contract : ∀ (W : World) (base : Nat) (args : Array Value) (ds gs : List (DataW H)) (before : List MemPlace),
      (∀ (j : Nat) t v, fn.params[j]? = some t → args[j]? = some v → Value.okWide C.prog W .any base t v) →
      DataW.Whole enc C.prog fn.params.toList s.vars apart W args.toList ds gs before →
      conds.all (PathCond.test C.prog ⟨fn.params.toList, ds, s.plain.varTypes C.prog, gs⟩) = true →
      (DataW.weightsEach C.prog (fn.params.toList ++ s.plain.varTypes C.prog) (ds ++ gs)).all (· ≤ reachBytes) = true → W.ShapedOpen C.prog → X W args →
      a.holds C.prog (lone (Frame.enter C.prog f args .normal) [] W) →
      Calls C.prog f args W fun e W' => ∃ v, e = .returned v ∧ s.post enc C.prog fn apart fresh handsOn again W args v W') :
    ReturnsInHanded a C os f .any (fun w args => (s.pre enc C.prog fn conds apart w args ∧ X w args) ∧ sizedMet enc C.prog fn (OpenSpec.ofChange s) apart w args) (s.post enc C.prog fn apart fresh handsOn again) := by
  refine returnsInHanded_of_calls own started noInit witness ?_
  intro w tape i _ hsh _ hok hpre hholds
  obtain ⟨_, _, _, fn', hfn', _, _, _, _, hval⟩ := hok
  have e : fn' = fn := Option.some.inj (hfn'.symm.trans hfn)
  subst e
  obtain ⟨⟨⟨ds, gs, before, hw, hc⟩, hx⟩, hz⟩ := hpre
  have hw' := DataW.Whole.of_heap (w' := w.forCall tape i) (by rfl) hw
  refine (contract (w.forCall tape i) w.heap.size i.args ds gs before hval hw' hc (hz.weights hw) hsh (hX _ _ _ (by rfl) hx) hholds).mono fun e W' ⟨v, he, hp⟩ => ?_
  subst he
  exact ChangeSpec.post_blind hp

end Go.Proofs.YtapgfamppnhnmaaOpen
