/- Slices of one's own whose elements lie apart, as a field of a struct (a tree whose parts lie apart): Kd.ssl in the place of Kd.slice. Builds over the unshaken words of a seat (Ytapgfamppnhnmaa = its Name). -/
import Derived.Test.YtapgfamppnhnmaaWApart
import Derived.Test.YtapgfamppnhnmaaWFoot
namespace Go.Proofs.YtapgfamppnhnmaaW.PrintWords
open Go.RowKit
namespace Kd
/-- As Kd.slice; its rows lie apart. -/
def ssl {α : Type} (e : Nat) (d : Kd α) : Kd (List α) where
  sz := 1
  E := e :: d.E
  K := (slice e d).K
  M := fun w base ok xs cs => ∃ v, cs = [v] ∧ S d e w base ok v xs
  K_len := (slice e d).K_len
  K_one := (slice e d).K_one
  K_below := (slice e d).K_below
  K_of_M := by
    rintro w base ok x cs ⟨v, rfl, h⟩
    exact (slice e d).K_of_M (⟨v, rfl, S_R h⟩ : ∃ u, [v] = [u] ∧ d.R e w base ok u x)
  M_mono := by
    rintro w base ok ok' x cs hok ⟨v, rfl, h⟩
    exact ⟨v, rfl, S_mono h hok⟩
  M_bound := by
    rintro w base ok x cs ⟨v, rfl, h⟩
    exact ⟨v, rfl, S_bound h⟩
  M_move := by
    rintro w w1 base ok x cs hm ⟨v, rfl, h⟩
    exact ⟨v, rfl, S_move h hm⟩
  M_lower := by
    rintro w base base' ok x cs hb ⟨v, rfl, h⟩
    exact ⟨v, rfl, S_lower h hb⟩
theorem S_imp {α : Type} {d d' : Kd α} (hs : d.sz = d'.sz) (h : ∀ w base ok x cs, d.M w base ok x cs → d'.M w base ok x cs) {e : Nat} {w : World} {base : Nat} {ok : Nat → Prop} {v : Value} {xs : List α} (hr : S d e w base ok v xs) : S d' e w base ok v xs := by
  obtain ⟨f, hr⟩ := hr
  exact ⟨f, R_imp (d := tag f d) (d' := tag f d') hs (fun w base ok x cs hp => h w base _ x.1 cs hp) hr⟩
theorem mono_ssl {α β : Type} (e : Nat) {G : Kd α → Kd β} (hG : Mono G) : Mono (fun d => ssl e (G d)) := by
  refine ⟨fun _ _ _ => rfl, (mono_slice e hG).K, ?_⟩
  rintro d d' hs h w base ok x cs ⟨v, rfl, hr⟩
  exact ⟨v, rfl, S_imp (hG.sz d d' hs) (hG.M d d' hs h) hr⟩
theorem sub_ssl {α β : Type} {E : List Nat} (e : Nat) {G : Kd α → Kd β} (he : e ∈ E) (hG : Sub G E) : Sub (fun d => ssl e (G d)) E := fun d h q hq => by
  rcases List.mem_cons.1 hq with rfl | hq
  · exact he
  · exact hG d h q hq
theorem heap_ssl {α : Type} {d : Kd α} (e : Nat) (hd : Heap d) : Heap (ssl e d) := ⟨fun hb h => (heap_slice e hd).K hb h⟩
section
variable {α : Type} {F : Kd α → Kd α} {sz : Nat} {E : List Nat} {hs : ∀ n, (upto F sz E n).sz = sz} {hE : ∀ n q, q ∈ (upto F sz E n).E → q ∈ E}
theorem fix_S {n : Nat} {e : Nat} {w : World} {base : Nat} {ok : Nat → Prop} {v : Value} {xs : List α} (h : S (upto F sz E n) e w base ok v xs) : S (fix F sz E hs hE) e w base ok v xs :=
  S_imp (d' := fix F sz E hs hE) (hs n) (fun w base ok x cs hp => (⟨n, hp⟩ : ∃ n, (upto F sz E n).M w base ok x cs)) h
theorem fix_S_back (hm : Mono F) {e : Nat} {w : World} {base : Nat} {ok : Nat → Prop} {v : Value} {xs : List α} (h : S (fix F sz E hs hE) e w base ok v xs) : ∃ n, S (upto F sz E n) e w base ok v xs := by
  obtain ⟨f, h0, inner, ho, hr⟩ := h
  obtain ⟨N, hN⟩ := reps_bounded (R := fun n p c => (tag f (upto F sz E n)).M w base (fun k => ok k ∧ some k ≠ v.ownBlock) p c) (fun n m p c hnm hp => upto_M_le hm hs hnm hp) hr
  refine ⟨N, f, h0, inner, ?_, ?_⟩
  · show _ = _ ∧ _
    have : (tag f (upto F sz E N)).sz = sz := hs N
    rw [this]
    exact ho
  · have : (tag f (upto F sz E N)).sz = sz := hs N
    rw [this]
    exact hN
theorem upto_S_le (hm : Mono F) (hs : ∀ n, (upto F sz E n).sz = sz) {n m : Nat} (hnm : n ≤ m) {e : Nat} {w : World} {base : Nat} {ok : Nat → Prop} {v : Value} {xs : List α} (h : S (upto F sz E n) e w base ok v xs) : S (upto F sz E m) e w base ok v xs :=
  S_imp (by rw [hs n, hs m]) (fun _ _ _ _ _ hp => upto_M_le hm hs hnm hp) h
end
/-- Behind a call that hands back a tree of its own: its blocks are new, the older row's are not. -/
theorem S_after_call {α β : Type} {d : Kd α} {d' : Kd β} {e e' : Nat} {W w1 : World} {base : Nat} {ok oku : Nat → Prop} {v u : Value} {xs : List α} {ys : List β} (ho : S d e w1 W.heap.size ok v xs) (hu : S d' e' W base oku u ys) (hb : Below W.heap.size W w1) (hbase : base ≤ W.heap.size) :
    ∃ n, n = W.heap.size ∧ S d e w1 base (fun k => ok k ∧ n ≤ k) v xs ∧ S d' e' w1 base (fun k => oku k ∧ k < n) u ys :=
  ⟨_, rfl, S_mono (S_lower (S_bound ho) hbase) (fun _ h => ⟨h.1, h.2.1⟩), S_mono (S_below (S_bound hu) hb) (fun _ h => ⟨h.1, h.2.2.1⟩)⟩
section
variable {P : Program} {ops : Array Oper} {o : Oper} {a : Act} {Q : Exit → Act → World → Prop} {Kc : Act → World → Prop} {α : Type}
/-- A literal of two trees: the first one's blocks are older than n, the second one's are not. -/
theorem S_two_step (d : Kd α) {W : World} (base e : Nat) (hw : Region.wanted o (yielded ops a.tmps) = true) {N' : Tmp} (_hd : o.dst = some N') {x0 x1 : α} {c0 c1 inner : List Value} (hin : inner = c0 ++ c1) {ok : Nat → Prop} (n : Nat)
    (hrun : (execOp a.eval o).run P W = .ok (.value (.slice (some ⟨W.heap.size, 0, none⟩) 2 2)) (W.alloc (.cells inner.toArray e)))
    (h0 : d.M W base (fun k => ok k ∧ k < n) x0 c0) (h1 : d.M W base (fun k => ok k ∧ n ≤ k) x1 c1) (hfresh : ok W.heap.size) (hbase : base ≤ W.heap.size)
    (h : ∀ v1 w1, S d e w1 base ok v1 [x0, x1] → Below W.heap.size W w1 → W.grownBy w1 none → (∃ b, v1.ownBlock = some b ∧ W.heap.size ≤ b) → Kc (a.put o.dst v1) w1) :
    if Region.wanted o (yielded ops a.tmps) = true then Oper.wp P o a W Kc Q else Kc (a.put o.dst undef) W := by
  have l0 : c0.length = d.sz := d.K_len (d.K_of_M h0)
  have l1 : c1.length = d.sz := d.K_len (d.K_of_M h1)
  subst hin
  refine S_lits_step d base e hw _hd (xs := [x0, x1]) (inner := c0 ++ c1) (ok := ok) (w0 := W) (fun j k => (j = 0 ∧ ok k ∧ k < n) ∨ (j = 1 ∧ ok k ∧ n ≤ k)) hrun ?_ ?_ ?_ ?_ hfresh (Below.refl _ _) hbase (by show 2 ≤ 9223372036854775807; decide) ?_
  · rw [List.length_append, l0, l1]
    show _ = 2 * d.sz
    omega
  · intro j x hj
    match j, hj with
    | 0, hj =>
      obtain rfl : x0 = x := by simpa using hj
      have e : ((c0 ++ c1).drop (0 * d.sz)).take d.sz = c0 := by rw [Nat.zero_mul, List.drop_zero, ← l0, List.take_left']; rfl
      rw [e]
      exact d.M_mono (fun k hk => .inl ⟨rfl, hk⟩) h0
    | 1, hj =>
      obtain rfl : x1 = x := by simpa using hj
      have e : ((c0 ++ c1).drop (1 * d.sz)).take d.sz = c1 := by rw [Nat.one_mul, ← l0, List.drop_left', l0, ← l1, List.take_length]; rfl
      rw [e]
      exact d.M_mono (fun k hk => .inr ⟨rfl, hk⟩) h1
    | j + 2, hj => simp at hj
  · rintro i j k (⟨rfl, _, hk⟩ | ⟨rfl, _, hk⟩) (⟨rfl, _, hk'⟩ | ⟨rfl, _, hk'⟩) <;> first | rfl | omega
  · rintro j k (⟨_, hk, _⟩ | ⟨_, hk, _⟩) <;> exact hk
  · intro v1 w1 hs _ hg hat
    exact h v1 w1 hs (Below.grown (Below.refl _ _) hg (Nat.le_refl _) (by simp)) hg hat
end
end Kd
end Go.Proofs.YtapgfamppnhnmaaW.PrintWords
