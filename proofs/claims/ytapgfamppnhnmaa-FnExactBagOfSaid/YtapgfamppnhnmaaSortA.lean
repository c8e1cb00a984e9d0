/- The library's stable sort over structs of two cells, walked: a row of the call's own is put in order, its elements only read. No condition. -/
import Derived.Test.YtapgfamppnhnmaaWNEv
import Derived.Test.YtapgfamppnhnmaaWKept
import Derived.Test.YtapgfamppnhnmaaStable
import Derived.Test.YtapgfamppnhnmaaProg
import Derived.Deep.DeepBigQuietO
import Derived.Deep.LoopGhost
import Derived.Shelf.SlicesQ.Load
import Derived.Sort.Walk0
namespace Go.Proofs.YtapgfamppnhnmaaSort
open Go Go.RowKit Go.Lib Go.Sort Go.Proofs.YtapgfamppnhnmaaW.PrintWords Go.Proofs.YtapgfamppnhnmaaStable
set_option linter.unusedVariables false
def Bw (w : World) := { p : World // Below w.heap.size w p }
instance (w : World) : Inhabited (Bw w) := ⟨⟨w, Below.refl _ _⟩⟩
theorem wp_region_quiet_below {P : Program} {id : Nat} {Q : Exit → Act → World → Prop} {a : Act} {w : World} {l : List Oper} (hm : P.follows .mixedOrders = true) (hB : Region.lexB .any l.toArray = true)
  (h : wpQuiet P l.toArray (fun w' => ∃ p : Bw w, w' = p.1) (fun a' => ∀ w', (∃ p : Bw w, w' = p.1) → Q .normal a' w') l a) : (Code.region id l.toArray true).wp P Q a w :=
 wp_region_quiet (C := fun w' => ∃ p : Bw w, w' = p.1) hm hB ⟨⟨w.drew, below_drew1 (Below.refl _ _)⟩, rfl⟩ (by simpa using h)
theorem Calls.below_of {P : Program} {f : FuncId} {args : Array Value} {w : World} {p : Bw w} {v : Value}
  (h : Calls P f args p.1 fun e w' => e = .returned v ∧ Below p.1.heap.size p.1 w') : Calls P f args p.1 fun e w'' => e = .returned v ∧ ∃ q : Bw w, w'' = q.1 :=
 h.mono fun _ w'' ⟨he, hb⟩ => ⟨he, ⟨w'', below_step p.2 hb⟩, rfl⟩
section
variable {α : Type} (d : Kd α) (e : Nat) (w0 : World) (base : Nat) (ok : Nat → Prop) (g cap : Nat) (z : α) (l : List α)
def SN (dk : Array Nat) (W : World) : Prop := dk.size = l.length ∧ Kd.N d e W base ok (.slice (some ⟨g, 0, none⟩) l.length cap) (dk.toList.map fun i => l.getD i z) ∧ w0.grownBy W (some g)
variable {d e w0 base ok g cap z l} {dk : Array Nat} {W : World}
theorem SN.below (h : SN d e w0 base ok g cap z l dk W) {p : World} (hb : Below W.heap.size W p) : SN d e w0 base ok g cap z l dk p :=
 ⟨h.1, Kd.N_below h.2.1 hb, World.grownBy.trans h.2.2 (grown_of_below hb (some g))⟩
theorem get_map (hs : dk.size = l.length) (i : Nat) (hi : i < dk.size) : (dk.toList.map fun i => l.getD i z).getD i z = l.getD dk[i]! z := by
 simp [List.getD_eq_getElem?_getD, hi]
theorem SN.elem (h : SN d e w0 base ok g cap z l dk W) (i : Nat) (hi : i < dk.size) :
  ∃ c, c.length = d.sz ∧ Kd.FK d W (fun k => ok k ∧ k ≠ g) (l.getD dk[i]! z) c ∧ (∀ (p : Bw W) (P : Program), Sem.run P (loadCellsFrom ⟨g, i * d.sz, none⟩ 0 d.sz #[]) p.1 = .ok c.toArray p.1) ∧ (∀ j u, c[j]? = some u → W.cell? ⟨g, i * d.sz + j, none⟩ = some u) := by
 obtain ⟨c, hcl, hF, hcc, hfr⟩ := Kd.N_elem h.2.1 z (i : Int) (by omega) (by have := h.1; omega)
 rw [Int.toNat_natCast] at hF hcc hfr
 rw [get_map h.1 i hi] at hF
 refine ⟨c, hcl, hF, fun p P => ?_, hcc⟩
 refine run_loadCellsFrom_list P p.1 _ c d.sz hcl (fun j u hj => ?_)
 have := hcc j u hj
 rw [show (⟨g, i * d.sz, none⟩ : Addr).add j = ⟨g, i * d.sz + j, none⟩ by unfold Addr.add; split <;> simp_all]
 exact (World.cell?_of_block (p.2.block _ (World.block_lt_of_cell? _ _ this))).trans this
theorem fk_grown {x : α} {c : List Value} {okp : Nat → Prop} {W1 : World} (h : Kd.FK d W okp x c) (hg : W.grownBy W1 (some g)) (hne : ∀ k, okp k → k ≠ g) : Kd.FK d W1 okp x c :=
 Foot.step h (fun k hk hlt => hg.block k hlt (fun e_ => hne k hk (Option.some.inj e_)))
theorem set_map (f : Nat → α) (dk : Array Nat) (i j : Nat) : ((dk.toList.map f).set i (f dk[j]!)).set j (f dk[i]!) = (swp dk i j).toList.map f := by
 unfold swp
 rw [Array.toList_setIfInBounds, Array.toList_setIfInBounds, List.map_set, List.map_set]
theorem SN.swap (h : SN d e w0 base ok g cap z l dk W) (i j : Nat) (hi : i < dk.size) (hj : j < dk.size) :
  ∃ ci cj : List Value, ci.length = d.sz ∧ cj.length = d.sz ∧ (∀ P : Program, Sem.run P (loadCellsFrom ⟨g, i * d.sz, none⟩ 0 d.sz #[]) W.drew = .ok ci.toArray W.drew) ∧ (∀ P : Program, Sem.run P (loadCellsFrom ⟨g, j * d.sz, none⟩ 0 d.sz #[]) W.drew = .ok cj.toArray W.drew) ∧
   (∀ P : Program, Sem.run P (storeCells ⟨g, i * d.sz, none⟩ cj 0) W.drew = .ok () (W.drew.setCells g (i * d.sz) cj)) ∧ (∀ P : Program, Sem.run P (storeCells ⟨g, j * d.sz, none⟩ ci 0) (W.drew.setCells g (i * d.sz) cj) = .ok () ((W.drew.setCells g (i * d.sz) cj).setCells g (j * d.sz) ci)) ∧
   SN d e w0 base ok g cap z l (swp dk i j) ((W.drew.setCells g (i * d.sz) cj).setCells g (j * d.sz) ci) := by
 have hd := h.below (below_drew1 (Below.refl W.heap.size W))
 generalize W.drew = W at hd ⊢
 obtain ⟨hs, hN, hg⟩ := hd
 obtain ⟨ci, li, Fi, Li, Ci⟩ := (show SN d e w0 base ok g cap z l dk W from ⟨hs, hN, hg⟩).elem i hi
 obtain ⟨cj, lj, Fj, Lj, Cj⟩ := (show SN d e w0 base ok g cap z l dk W from ⟨hs, hN, hg⟩).elem j hj
 obtain ⟨_, _, _, ci0, fi0⟩ := Kd.N_elem hN z (i : Int) (by omega) (by omega)
 have fri : ∀ j, W.frozen? ⟨g, i * d.sz + j, none⟩ = false := by rw [Int.toNat_natCast] at fi0; exact fi0
 have P1 := Kd.N_seg hN (i : Int) (by omega) (by omega) (c := ci) (seg := cj) (j := 0) li (by rw [Int.toNat_natCast]; exact Ci) (by omega) (x' := l.getD dk[j]! z) (okp := fun k => ok k ∧ k ≠ g) (by rw [List.take_zero, List.nil_append, List.drop_of_length_le (by omega), List.append_nil]; exact Fj) (fun k hk => hk)
 rw [Int.toNat_natCast, Nat.add_zero] at P1
 have s1 : ∀ P : Program, Sem.run P (storeCells ⟨g, i * d.sz, none⟩ cj 0) W = .ok () (W.setCells g (i * d.sz) cj) := fun P => by
  have := run_storeCells_cells (P := P) g (i * d.sz) cj 0 W (fun q hq => by rw [Nat.add_zero, Ci q _ (List.getElem?_eq_getElem (by omega))]; rfl) (fun q hq => by rw [Nat.add_zero]; exact fri q) (fun v hv => d.K_one (Kd.FK_now Fj) v hv)
  rwa [Nat.add_zero] at this
 refine ⟨ci, cj, li, lj, fun P => Li ⟨W, Below.refl _ _⟩ P, fun P => Lj ⟨W, Below.refl _ _⟩ P, ?_⟩
 generalize W.setCells g (i * d.sz) cj = W1 at P1 s1 ⊢
 have hl1 : (((dk.toList.map fun i => l.getD i z).set i (l.getD dk[j]! z))).length = l.length := by simp [hs]
 obtain ⟨c1, l1, _, C1, f1⟩ := Kd.N_elem P1.1 z (j : Int) (by omega) (by omega)
 rw [Int.toNat_natCast] at C1 f1
 have P2 := Kd.N_seg P1.1 (j : Int) (by omega) (by omega) (c := c1) (seg := ci) (j := 0) l1 (by rw [Int.toNat_natCast]; exact C1) (by omega) (x' := l.getD dk[i]! z) (okp := fun k => ok k ∧ k ≠ g) (by rw [List.take_zero, List.nil_append, List.drop_of_length_le (by omega), List.append_nil]; exact fk_grown Fi P1.2 (fun k hk => hk.2)) (fun k hk => hk)
 rw [Int.toNat_natCast, Nat.add_zero] at P2
 have s2 : ∀ P : Program, Sem.run P (storeCells ⟨g, j * d.sz, none⟩ ci 0) W1 = .ok () (W1.setCells g (j * d.sz) ci) := fun P => by
  have := run_storeCells_cells (P := P) g (j * d.sz) ci 0 W1 (fun q hq => by rw [Nat.add_zero, C1 q _ (List.getElem?_eq_getElem (by omega))]; rfl) (fun q hq => by rw [Nat.add_zero]; exact f1 q) (fun v hv => d.K_one (Kd.FK_now Fi) v hv)
  rwa [Nat.add_zero] at this
 refine ⟨s1, s2, by rw [size_swp]; exact hs, ?_, World.grownBy.trans (World.grownBy.trans hg P1.2) P2.2⟩
 have := P2.1
 rwa [set_map (fun i => l.getD i z)] at this
end
structure SL (P : Program) (k : Nat) : Prop where
 mixed : P.follows .mixedOrders = true
 aE : ∀ w, (isAgg 74).run P w = .ok true w
 zE : ∀ w, (Go.sizeOf 74).run P w = .ok k w
 t3 : P.underlying 3 = some (.int .i64)
 a3 : ∀ w, (isAgg 3).run P w = .ok false w
 z3 : ∀ w, (Go.sizeOf 3).run P w = .ok 1 w
 v3 : ∀ w, (zeroValue 3).run P w = .ok (.int .i64 0) w
 t4 : P.underlying 4 = some .bool
 a4 : ∀ w, (isAgg 4).run P w = .ok false w
 z4 : ∀ w, (Go.sizeOf 4).run P w = .ok 1 w
 v4 : ∀ w, (zeroValue 4).run P w = .ok (.bool false) w
 tS : P.underlying 38 = some (.slice 74)
 aS : ∀ w, (isAgg 38).run P w = .ok false w
 zS : ∀ w, (Go.sizeOf 38).run P w = .ok 1 w
 vS : ∀ w, (zeroValue 38).run P w = .ok (.slice none 0 0) w
 tU : P.underlying 149 = some (.int .u64)
 aU : ∀ w, (isAgg 149).run P w = .ok false w
 zU : ∀ w, (Go.sizeOf 149).run P w = .ok 1 w
 vU : ∀ w, (zeroValue 149).run P w = .ok (.int .u64 0) w
 aF : ∀ w, (isAgg 111).run P w = .ok false w
 zF : ∀ w, (Go.sizeOf 111).run P w = .ok 1 w
 fSwap : P.funcs[145]? = some Try.f145
 fRot : P.funcs[140]? = some Try.f140
 fIns : P.funcs[126]? = some Try.f126
 fSym : P.funcs[127]? = some Try.f127
 fStable : P.funcs[110]? = some Try.f110
 fTop : P.funcs[78]? = some Try.f78
set_option maxHeartbeats 4000000 in
set_option maxRecDepth 1000000 in
theorem swapRange_calls {P : Program} {k : Nat} (L : SL P k) {α : Type} {d : Kd α} (hk : d.sz = k) {e : Nat} {w0 : World} {base : Nat} {ok : Nat → Prop} {g cap : Nat} {z : α} {l : List α} {d0 : Array Nat} {w : World} (S : SN d e w0 base ok g cap z l d0 w) (cv : Value) (a b n : Nat) (ha : a + n ≤ l.length) (hb : b + n ≤ l.length) (hsz : l.length < 4611686018427387904) :
  Calls P 145 #[.slice (some ⟨g, 0, none⟩) l.length cap, .int .i64 a, .int .i64 b, .int .i64 n, cv] w fun e' w' => e' = .returned (.tuple #[]) ∧ SN d e w0 base ok g cap z l (swapRange a b n 0 d0) w' := by
 have mixed := L.mixed; have t3 := L.t3; have a3 := L.a3; have z3 := L.z3; have v3 := L.v3; have t4 := L.t4; have a4 := L.a4; have z4 := L.z4; have v4 := L.v4; have tS := L.tS; have aS := L.aS; have zS := L.zS; have vS := L.vS; have aE := L.aE; have zE := L.zE
 have uS := run_underlying L.tS
 have FG := L.fSwap
 have S0 : Aside (SN d e w0 base ok g cap z l d0 w) := S
 clear S
 go_enter FG, Try.ntmps145
 go_wp2
 go_loopg [10] n (fun kx s10 wr => ∃ (i : Nat) (dk : Array Nat), s10 = .int .i64 i ∧ i ≤ n ∧ n - i ≤ kx ∧ dk.size = l.length ∧ Aside (SN d e w0 base ok g cap z l dk wr) ∧ Hid (swapRange a b (n - i) i dk = swapRange a b n 0 d0))
 case atStart => exact ⟨0, d0, rfl, by omega, by omega, S0.out.1, S0, rfl⟩
 case round =>
  clear S0
  obtain ⟨i, dk, rfl, hin, hkx, hds, S1, HE⟩ := hrel
  by_cases hlt : i < n
  ·have hltz : (i : Int) < (n : Int) := by omega
   have ea : ((a : Int) + (i : Int)).toNat = a + i := by omega
   have pa : (0 : Int) ≤ (a : Int) + (i : Int) := by omega
   have ba : (a : Int) + (i : Int) < (l.length : Int) := by omega
   have ra : IntKind.i64.wrap ((a : Int) + (i : Int)) = (a : Int) + (i : Int) := by rw [IntKind.wrap_i64]; omega
   have ec : ((b : Int) + (i : Int)).toNat = b + i := by omega
   have pc : (0 : Int) ≤ (b : Int) + (i : Int) := by omega
   have bc : (b : Int) + (i : Int) < (l.length : Int) := by omega
   have rc : IntKind.i64.wrap ((b : Int) + (i : Int)) = (b : Int) + (i : Int) := by rw [IntKind.wrap_i64]; omega
   obtain ⟨cI, cJ, nI, nJ, lI, lJ, sI, sJ, S2⟩ := S1.out.swap (a + i) (b + i) (by omega) (by omega)
   rw [hk] at nI nJ lI lJ sI sJ S2
   replace lI := lI P
   replace lJ := lJ P
   replace sI := sI P
   replace sJ := sJ P
   replace S2 : Aside _ := S2
   clear S1
   go_wp2_with fail
   go_big_region_o
   clear lI lJ sI sJ
   generalize (wr.drew.setCells g ((a + i) * k) cJ).setCells g ((b + i) * k) cI = w2 at S2 ⊢
   go_wp2
   go_roundg (n - (i + 1))
   case measure => omega
   case rel =>
    refine ⟨i + 1, swp dk (a + i) (b + i), by go_num, by omega, Nat.le_refl _, by rw [size_swp]; exact hds, S2, ?_⟩
    have h := HE.out
    rw [show n - i = (n - (i + 1)) + 1 by omega] at h
    exact h
  ·have hltz : ¬ (i : Int) < (n : Int) := by omega
   go_wp2
   go_end0
   refine ⟨rfl, ?_⟩
   have hi : n - i = 0 := by omega
   have h := HE.out
   rw [hi] at h
   rw [← h]
   exact S1.out
theorem fk_below {α : Type} {d : Kd α} {W p : World} {okp : Nat → Prop} {x : α} {c : List Value} (h : Kd.FK d W okp x c) (hb : Below W.heap.size W p) : Kd.FK d p (fun _ => True) x c :=
 Foot.mono (Foot.step h (fun k _ hlt => hb.block k hlt)) (fun _ _ => trivial)
def Cmp {α : Type} (P : Program) (gF : Nat) (d : Kd α) (z : α) (l : List α) (cf : Nat → Nat → Int) : Prop :=
 ∀ (W : World) (x y : Nat) (cx cy : List Value), Kd.FK d W (fun _ => True) (l.getD x z) cx → Kd.FK d W (fun _ => True) (l.getD y z) cy → Calls P gF #[.agg cx.toArray, .agg cy.toArray] W fun e w' => e = .returned (.int .i64 (cf x y)) ∧ Below W.heap.size W w'
def ltC (cf : Nat → Nat → Int) (x y : Nat) : Bool := decide (cf x y < 0)
theorem rot_step {α : Type} [Inhabited α] (m f i j : Nat) (d : Array α) : rot m (f + 1) i j d = if i = j then swapRange (m - i) m i 0 d else if i > j then rot m f (i - j) j (swapRange (m - i) m j 0 d) else rot m f i (j - i) (swapRange (m - i) (m + j - i) i 0 d) := rfl
set_option maxHeartbeats 4000000 in
set_option maxRecDepth 1000000 in
theorem rotate_calls {P : Program} {k : Nat} (L : SL P k) {α : Type} {d : Kd α} (hk : d.sz = k) {e : Nat} {w0 : World} {base : Nat} {ok : Nat → Prop} {g cap : Nat} {z : α} {l : List α} {d0 : Array Nat} {w : World} (S : SN d e w0 base ok g cap z l d0 w) (cv : Value) (a m b : Nat) (ham : a < m) (hmb : m < b) (hb : b ≤ l.length) (hsz : l.length < 4611686018427387904) :
  Calls P 140 #[.slice (some ⟨g, 0, none⟩) l.length cap, .int .i64 a, .int .i64 m, .int .i64 b, cv] w fun e' w' => e' = .returned (.tuple #[]) ∧ SN d e w0 base ok g cap z l (rot m (b - a) (m - a) (b - m) d0) w' := by
 have mixed := L.mixed; have t3 := L.t3; have a3 := L.a3; have z3 := L.z3; have v3 := L.v3; have t4 := L.t4; have a4 := L.a4; have z4 := L.z4; have v4 := L.v4; have tS := L.tS; have aS := L.aS; have zS := L.zS; have vS := L.vS; have tU := L.tU; have aU := L.aU; have zU := L.zU; have vU := L.vU; have aF := L.aF; have zF := L.zF; have aE := L.aE; have zE := L.zE
 have uS := run_underlying L.tS
 have eg1 : ∀ args w, (callFunc 145 args).run P w = .ok (.enter 145 args) w := enters_of L.fSwap (by kernel_rfl) rfl
 have eg2 : ∀ args w, (callFunc 140 args).run P w = .ok (.enter 140 args) w := enters_of L.fRot (by kernel_rfl) rfl
 have eg3 : ∀ args w, (callFunc 126 args).run P w = .ok (.enter 126 args) w := enters_of L.fIns (by kernel_rfl) rfl
 have eg4 : ∀ args w, (callFunc 127 args).run P w = .ok (.enter 127 args) w := enters_of L.fSym (by kernel_rfl) rfl
 have eg5 : ∀ args w, (callFunc 110 args).run P w = .ok (.enter 110 args) w := enters_of L.fStable (by kernel_rfl) rfl
 have FG := L.fRot
 have S0 : Aside (SN d e w0 base ok g cap z l d0 w) := S
 have LL : Aside (SL P k) := L
 clear S L
 have r1 : IntKind.i64.wrap ((m : Int) - (a : Int)) = (m : Int) - (a : Int) := by rw [IntKind.wrap_i64]; omega
 have r2 : IntKind.i64.wrap ((b : Int) - (m : Int)) = (b : Int) - (m : Int) := by rw [IntKind.wrap_i64]; omega
 go_enter FG, Try.ntmps140
 go_wp2
 go_loopg [10, 11] (b - a) (fun kx s10 s11 wr => ∃ (f i j : Nat) (dk : Array Nat), s10 = .int .i64 i ∧ s11 = .int .i64 j ∧ 0 < i ∧ 0 < j ∧ i ≤ m ∧ m + j ≤ l.length ∧ i + j ≤ f ∧ f ≤ kx ∧ dk.size = l.length ∧ Aside (SN d e w0 base ok g cap z l dk wr) ∧ Hid (rot m f i j dk = rot m (b - a) (m - a) (b - m) d0))
 case atStart => exact ⟨b - a, m - a, b - m, d0, by rw [Int.ofNat_sub (by omega)], by rw [Int.ofNat_sub (by omega)], by omega, by omega, by omega, by omega, by omega, Nat.le_refl _, S0.out.1, S0, rfl⟩
 case round =>
  clear S0 r1 r2
  obtain ⟨f, i, j, dk, rfl, rfl, hi, hj, him, hjm, hf, hkx, hds, S1, HE⟩ := hrel
  obtain ⟨f, rfl⟩ : ∃ q, f = q + 1 := ⟨f - 1, by omega⟩
  have rM : IntKind.i64.wrap ((m : Int) - (i : Int)) = (m : Int) - (i : Int) := by rw [IntKind.wrap_i64]; omega
  by_cases hij : i = j
  ·subst hij
   have hc : Calls P 145 #[.slice (some ⟨g, 0, none⟩) l.length cap, .int .i64 ((m : Int) - (i : Int)), .int .i64 (m : Int), .int .i64 (i : Int), cv] wr fun e' w' => e' = .returned (.tuple #[]) ∧ SN d e w0 base ok g cap z l (swapRange (m - i) m i 0 dk) w' := by
    rw [show (m : Int) - (i : Int) = ((m - i : Nat) : Int) by omega]
    exact swapRange_calls LL.out hk S1.out cv (m - i) m i (by omega) (by omega) hsz
   go_wp2_with (go_at_fn 145; refine hc.mono ?_; rintro e1 w1 ⟨rfl, S2⟩; replace S2 : Aside _ := S2)
   go_end0
   refine ⟨rfl, ?_⟩
   have h := HE.out
   rw [rot_step, if_pos rfl] at h
   rw [← h]
   exact S2.out
  ·have hijz : ¬ (i : Int) = (j : Int) := by omega
   by_cases hgt : j < i
   ·have hgtz : (j : Int) < (i : Int) := by omega
    have rI : IntKind.i64.wrap ((i : Int) - (j : Int)) = (i : Int) - (j : Int) := by rw [IntKind.wrap_i64]; omega
    have hc : Calls P 145 #[.slice (some ⟨g, 0, none⟩) l.length cap, .int .i64 ((m : Int) - (i : Int)), .int .i64 (m : Int), .int .i64 (j : Int), cv] wr fun e' w' => e' = .returned (.tuple #[]) ∧ SN d e w0 base ok g cap z l (swapRange (m - i) m j 0 dk) w' := by
     rw [show (m : Int) - (i : Int) = ((m - i : Nat) : Int) by omega]
     exact swapRange_calls LL.out hk S1.out cv (m - i) m j (by omega) (by omega) hsz
    go_wp2_with (go_at_fn 145; refine hc.mono ?_; rintro e1 w1 ⟨rfl, S2⟩; replace S2 : Aside _ := S2)
    go_roundg f
    case measure => omega
    case rel =>
     refine ⟨f, i - j, j, swapRange (m - i) m j 0 dk, by rw [Int.ofNat_sub (by omega)], rfl, by omega, hj, by omega, hjm, by omega, Nat.le_refl _, by rw [swapRange_size]; exact hds, S2, ?_⟩
     have h := HE.out
     rw [rot_step, if_neg hij, if_pos hgt] at h
     exact h
   ·have hgtz : ¬ (j : Int) < (i : Int) := by omega
    have rI : IntKind.i64.wrap ((j : Int) - (i : Int)) = (j : Int) - (i : Int) := by rw [IntKind.wrap_i64]; omega
    have rJ : IntKind.i64.wrap ((m : Int) + (j : Int)) = (m : Int) + (j : Int) := by rw [IntKind.wrap_i64]; omega
    have rK : IntKind.i64.wrap ((m : Int) + (j : Int) - (i : Int)) = (m : Int) + (j : Int) - (i : Int) := by rw [IntKind.wrap_i64]; omega
    have hc : Calls P 145 #[.slice (some ⟨g, 0, none⟩) l.length cap, .int .i64 ((m : Int) - (i : Int)), .int .i64 ((m : Int) + (j : Int) - (i : Int)), .int .i64 (i : Int), cv] wr fun e' w' => e' = .returned (.tuple #[]) ∧ SN d e w0 base ok g cap z l (swapRange (m - i) (m + j - i) i 0 dk) w' := by
     rw [show (m : Int) - (i : Int) = ((m - i : Nat) : Int) by omega, show (m : Int) + (j : Int) - (i : Int) = ((m + j - i : Nat) : Int) by omega]
     exact swapRange_calls LL.out hk S1.out cv (m - i) (m + j - i) i (by omega) (by omega) hsz
    go_wp2_with (go_at_fn 145; refine hc.mono ?_; rintro e1 w1 ⟨rfl, S2⟩; replace S2 : Aside _ := S2)
    go_roundg f
    case measure => omega
    case rel =>
     refine ⟨f, i, j - i, swapRange (m - i) (m + j - i) i 0 dk, rfl, by rw [Int.ofNat_sub (by omega)], hi, by omega, him, by omega, by omega, Nat.le_refl _, by rw [swapRange_size]; exact hds, S2, ?_⟩
     have h := HE.out
     rw [rot_step, if_neg hij, if_neg (by omega)] at h
     exact h
theorem insOuter_go' (lt : Nat → Nat → Bool) (a b i : Nat) (d : Array Nat) (h : i < b) : insOuter lt a b i d = insOuter lt a b (i + 1) (insInner lt a i d) := by rw [insOuter, if_pos h]
theorem insOuter_end' (lt : Nat → Nat → Bool) (a b i : Nat) (d : Array Nat) (h : ¬ i < b) : insOuter lt a b i d = d := by rw [insOuter, if_neg h]
theorem insInner_size' (lt : Nat → Nat → Bool) (a : Nat) : ∀ (j : Nat) (d : Array Nat), (insInner lt a j d).size = d.size
 | 0, d => by unfold insInner; rfl
 | j + 1, d => by
  unfold insInner
  split
  ·rw [insInner_size', size_swp]
  ·rfl
theorem insInner_stop' (lt : Nat → Nat → Bool) (a j : Nat) (d : Array Nat) (h : j ≤ a ∨ lt d[j]! d[j - 1]! = false) : insInner lt a j d = d := by
 cases j with
 | zero => unfold insInner; rfl
 | succ j =>
  unfold insInner
  rw [if_neg]
  intro hc
  simp only [Bool.and_eq_true, decide_eq_true_eq] at hc
  rcases h with h | h
  ·omega
  ·rw [show j + 1 - 1 = j from rfl, hc.2] at h; cases h
theorem insInner_go' (lt : Nat → Nat → Bool) (a j : Nat) (d : Array Nat) (h1 : a < j + 1) (h2 : lt d[j + 1]! d[j]! = true) : insInner lt a (j + 1) d = insInner lt a j (swp d (j + 1) j) := by
 conv => lhs; unfold insInner
 rw [if_pos (by simp [h1, h2])]
set_option maxHeartbeats 8000000 in
set_option maxRecDepth 1000000 in
theorem insertion_calls {P : Program} {k : Nat} (L : SL P k) {α : Type} {d : Kd α} (hk : d.sz = k) {e : Nat} {w0 : World} {base : Nat} {ok : Nat → Prop} {g cap : Nat} {z : α} {l : List α} {d0 : Array Nat} {w : World} (S : SN d e w0 base ok g cap z l d0 w) (gF : Nat) (eg : ∀ args w, (callFunc gF args).run P w = .ok (.enter gF args) w) (cf : Nat → Nat → Int) (HC : Cmp P gF d z l cf) (a b : Nat) (hab : a ≤ b) (hb : b ≤ l.length) (hsz : l.length < 4611686018427387904) :
  Calls P 126 #[.slice (some ⟨g, 0, none⟩) l.length cap, .int .i64 a, .int .i64 b, .func (.func gF) #[] #[]] w fun e' w' => e' = .returned (.tuple #[]) ∧ SN d e w0 base ok g cap z l (insertionSort (ltC cf) d0 a b) w' := by
 have mixed := L.mixed; have t3 := L.t3; have a3 := L.a3; have z3 := L.z3; have v3 := L.v3; have t4 := L.t4; have a4 := L.a4; have z4 := L.z4; have v4 := L.v4; have tS := L.tS; have aS := L.aS; have zS := L.zS; have vS := L.vS; have tU := L.tU; have aU := L.aU; have zU := L.zU; have vU := L.vU; have aF := L.aF; have zF := L.zF; have aE := L.aE; have zE := L.zE
 have uS := run_underlying L.tS
 have eg1 : ∀ args w, (callFunc 145 args).run P w = .ok (.enter 145 args) w := enters_of L.fSwap (by kernel_rfl) rfl
 have eg2 : ∀ args w, (callFunc 140 args).run P w = .ok (.enter 140 args) w := enters_of L.fRot (by kernel_rfl) rfl
 have eg3 : ∀ args w, (callFunc 126 args).run P w = .ok (.enter 126 args) w := enters_of L.fIns (by kernel_rfl) rfl
 have eg4 : ∀ args w, (callFunc 127 args).run P w = .ok (.enter 127 args) w := enters_of L.fSym (by kernel_rfl) rfl
 have eg5 : ∀ args w, (callFunc 110 args).run P w = .ok (.enter 110 args) w := enters_of L.fStable (by kernel_rfl) rfl
 have FG := L.fIns
 have S0 : Aside (SN d e w0 base ok g cap z l d0 w) := S
 replace HC : Aside _ := HC
 clear S L
 go_enter FG, Try.ntmps126
 go_wp2
 go_loopg [8] (b - a) (fun g1 vi wr => ∃ (i : Nat) (dk : Array Nat), vi = .int .i64 i ∧ a < i ∧ i ≤ b + 1 ∧ b + 1 - i ≤ g1 + 1 ∧ dk.size = l.length ∧ Aside (SN d e w0 base ok g cap z l dk wr) ∧ Hid (insOuter (ltC cf) a b i dk = insOuter (ltC cf) a b (a + 1) d0))
 case atStart => exact ⟨a + 1, d0, by go_num, by omega, by omega, by omega, S0.out.1, S0, rfl⟩
 case round =>
  obtain ⟨i, dk, rfl, hai, hib, hg1, hsk, S1, HO⟩ := hrel
  clear S0
  by_cases hlt : i < b
  ·have hltz : (i : Int) < (b : Int) := by omega
   go_wp2
   go_loopg [9] i (fun g2 vj wr2 => ∃ (j : Nat) (dj : Array Nat), vj = .int .i64 j ∧ a ≤ j ∧ j ≤ i ∧ j ≤ g2 ∧ dj.size = l.length ∧ Aside (SN d e w0 base ok g cap z l dj wr2) ∧ Hid (insInner (ltC cf) a j dj = insInner (ltC cf) a i dk))
   case atStart => exact ⟨i, dk, rfl, by omega, Nat.le_refl _, Nat.le_refl _, hsk, S1, rfl⟩
   case round =>
    obtain ⟨j, dj, rfl, haj, hji, hg2, hsj, S2, HI⟩ := hrel
    clear S1
    have out : (j ≤ a ∨ ltC cf dj[j]! dj[j - 1]! = false) → Hid (insOuter (ltC cf) a b (i + 1) dj = insOuter (ltC cf) a b (a + 1) d0) := fun hs => by
     show _ = _
     rw [← HO.out, insOuter_go' _ _ _ _ _ hlt, ← HI.out, insInner_stop' _ _ _ _ hs]
    have OUT : Aside _ := out
    clear out
    by_cases hja : a < j
    ·obtain ⟨jp, rfl⟩ : ∃ jp, j = jp + 1 := ⟨j - 1, by omega⟩
     have hwp : IntKind.i64.wrap (jp : Int) = (jp : Int) := by rw [IntKind.wrap_i64]; omega
     have jz : (jp : Int) + 1 < (l.length : Int) := by omega
     have jz1 : (jp : Int) < (l.length : Int) := by omega
     have hjaz' : (a : Int) < (jp : Int) + 1 := by omega
     have p0 : (0 : Int) ≤ (jp : Int) + 1 := by omega
     have e0 : ((jp : Int) + 1).toNat = jp + 1 := by omega
     cases hL : ltC cf dj[jp + 1]! dj[jp]! with
     | true =>
      obtain ⟨cX, nX, FX, lX0, _⟩ := S2.out.elem (jp + 1) (by omega)
      obtain ⟨cY, nY, FY, lY0, _⟩ := S2.out.elem jp (by omega)
      rw [hk] at nX nY lX0 lY0
      have lX := fun q => lX0 q P
      have lY := fun q => lY0 q P
      obtain ⟨vc, hvc⟩ : ∃ v, v = cf dj[jp + 1]! dj[jp]! := ⟨_, rfl⟩
      have hcc : ∀ q : Bw wr, Calls P gF #[.agg cX.toArray, .agg cY.toArray] q.1 fun e w' => e = .returned (.int .i64 vc) ∧ Below q.1.heap.size q.1 w' := fun q => by rw [hvc]; exact HC.out q.1 _ _ _ _ (fk_below FX q.2) (fk_below FY q.2)
      have hv : vc < 0 := by rw [hvc]; exact of_decide_eq_true hL
      have hd : decide (vc < 0) = true := decide_eq_true hv
      clear hvc lX0 lY0 FX FY
      go_wp2_with fail
      refine wp_region_quiet_below (by assumption) (by kernel_rfl) ?_
      repeat (quiet_step (first | (go_at_fn gF; refine Calls.below_of (hcc _))))
      refine wpQuiet_nil ?_
      intro _ hw'
      obtain ⟨pq, hw''⟩ := hw'
      subst hw''
      have S3 : Aside (SN d e w0 base ok g cap z l dj pq.1) := S2.out.below pq.2
      clear lX lY hcc S2
      generalize pq.1 = w3 at S3 ⊢
      clear pq
      obtain ⟨cI, cJ, nI, nJ, lI, lJ, sI, sJ, S4⟩ := S3.out.swap (jp + 1) jp (by omega) (by omega)
      rw [hk] at nI nJ lI lJ sI sJ S4
      replace lI := lI P
      replace lJ := lJ P
      replace sI := sI P
      replace sJ := sJ P
      replace S4 : Aside _ := S4
      clear S3
      go_wp2_with fail
      go_big_region_o
      clear lI lJ sI sJ
      generalize (w3.drew.setCells g ((jp + 1) * k) cJ).setCells g (jp * k) cI = w4 at S4 ⊢
      go_wp2
      go_roundg jp
      case measure => omega
      case rel =>
       exact ⟨jp, swp dj (jp + 1) jp, by go_num, by omega, by omega, Nat.le_refl _, by rw [size_swp]; exact hsj, S4, (show Hid _ from by rw [← HI.out, insInner_go' _ _ _ _ (by omega) hL]; exact rfl)⟩
     | false =>
      obtain ⟨cX, nX, FX, lX0, _⟩ := S2.out.elem (jp + 1) (by omega)
      obtain ⟨cY, nY, FY, lY0, _⟩ := S2.out.elem jp (by omega)
      rw [hk] at nX nY lX0 lY0
      have lX := fun q => lX0 q P
      have lY := fun q => lY0 q P
      obtain ⟨vc, hvc⟩ : ∃ v, v = cf dj[jp + 1]! dj[jp]! := ⟨_, rfl⟩
      have hcc : ∀ q : Bw wr, Calls P gF #[.agg cX.toArray, .agg cY.toArray] q.1 fun e w' => e = .returned (.int .i64 vc) ∧ Below q.1.heap.size q.1 w' := fun q => by rw [hvc]; exact HC.out q.1 _ _ _ _ (fk_below FX q.2) (fk_below FY q.2)
      have hv : ¬ vc < 0 := by rw [hvc]; exact of_decide_eq_false hL
      have hd : decide (vc < 0) = false := decide_eq_false hv
      clear hvc lX0 lY0 FX FY
      go_wp2_with fail
      refine wp_region_quiet_below (by assumption) (by kernel_rfl) ?_
      repeat (quiet_step (first | (go_at_fn gF; refine Calls.below_of (hcc _))))
      refine wpQuiet_nil ?_
      intro _ hw'
      obtain ⟨pq, hw''⟩ := hw'
      subst hw''
      have S3 : Aside (SN d e w0 base ok g cap z l dj pq.1) := S2.out.below pq.2
      clear lX lY hcc S2
      generalize pq.1 = w3 at S3 ⊢
      clear pq
      go_wp2
      go_roundg (b - (i + 1))
      case measure => omega
      case rel => exact ⟨i + 1, dj, by go_num, by omega, by omega, by omega, hsj, S3, OUT.out (.inr hL)⟩
    ·have hjaz : ¬ (a : Int) < (j : Int) := by omega
     have hjd : decide ((a : Int) < (j : Int)) = false := decide_eq_false hjaz
     go_wp2_with fail
     go_big_region_o
     have S3 : Aside (SN d e w0 base ok g cap z l dj wr.drew) := S2.out.below (below_drew1 (Below.refl _ _))
     clear S2
     generalize wr.drew = w3 at S3 ⊢
     go_wp2
     go_roundg (b - (i + 1))
     case measure => omega
     case rel => exact ⟨i + 1, dj, by go_num, by omega, by omega, by omega, hsj, S3, OUT.out (.inl (by omega))⟩
  ·have hltz : ¬ (i : Int) < (b : Int) := by omega
   go_wp2
   go_end0
   refine ⟨rfl, ?_⟩
   have h := HO.out
   rw [insOuter_end' _ _ _ _ _ hlt] at h
   unfold insertionSort
   rw [← h]
   exact S1.out
theorem bs_step (P : Nat → Bool) (f i j : Nat) : bs P (f + 1) i j = if i < j then (if P ((i + j) / 2) then bs P f ((i + j) / 2 + 1) j else bs P f i ((i + j) / 2)) else i := rfl
theorem bs_stop (P : Nat → Bool) (f i j : Nat) (h : ¬ i < j) : bs P f i j = i := by
 cases f with
 | zero => rfl
 | succ f => rw [bs_step, if_neg h]
theorem sym_one (lt : Nat → Nat → Bool) (f a m b : Nat) (d : Array Nat) (h : m - a = 1) : symMerge lt (f + 1) a m b d = up (bs (fun h => lt d[h]! d[a]!) (b - m) m b - 1 - a) a d := by unfold symMerge; rw [if_pos h]
theorem sym_rest (lt : Nat → Nat → Bool) (f a m b mid s e : Nat) (d : Array Nat) (h : ¬ m - a = 1) (h' : ¬ b - m = 1) (hm : mid = (a + b) / 2) (hs : cut lt a m b d = s) (he : e = mid + m - s) : symMerge lt (f + 1) a m b d = (let d1 := rotIf s m e d; let d2 := if a < s ∧ s < mid then symMerge lt f a s mid d1 else d1; if mid < e ∧ e < b then symMerge lt f mid e b d2 else d2) := by
 subst hm; subst hs; subst he
 conv => lhs; unfold symMerge
 rw [if_neg h, if_neg h']
theorem sym_two (lt : Nat → Nat → Bool) (f a m b : Nat) (d : Array Nat) (h : ¬ m - a = 1) (h' : b - m = 1) : symMerge lt (f + 1) a m b d = down (m - bs (fun h => !lt d[m]! d[h]!) (m - a) a m) m d := by unfold symMerge; rw [if_neg h, if_pos h']
set_option maxHeartbeats 16000000 in
set_option maxRecDepth 1000000 in
theorem sym_calls1 {P : Program} {k : Nat} (L : SL P k) {α : Type} {d : Kd α} (hk : d.sz = k) {e : Nat} {w0 : World} {base : Nat} {ok : Nat → Prop} {g cap : Nat} {z : α} {l : List α} (gF : Nat) (eg : ∀ args w, (callFunc gF args).run P w = .ok (.enter gF args) w) (cf : Nat → Nat → Int) (HC : Cmp P gF d z l cf) (hsz : l.length < 4611686018427387904) (f a m b : Nat) (d0 : Array Nat) (w : World) (S : SN d e w0 base ok g cap z l d0 w) (ham : a < m) (hmb : m < b) (hb : b ≤ l.length) (hf : b - a ≤ f + 1) (c1 : m - a = 1) :
  Calls P 127 #[.slice (some ⟨g, 0, none⟩) l.length cap, .int .i64 a, .int .i64 m, .int .i64 b, .func (.func gF) #[] #[]] w fun e' w' => e' = .returned (.tuple #[]) ∧ SN d e w0 base ok g cap z l (symMerge (ltC cf) (f + 1) a m b d0) w' := by
 have mixed := L.mixed; have t3 := L.t3; have a3 := L.a3; have z3 := L.z3; have v3 := L.v3; have t4 := L.t4; have a4 := L.a4; have z4 := L.z4; have v4 := L.v4; have tS := L.tS; have aS := L.aS; have zS := L.zS; have vS := L.vS; have tU := L.tU; have aU := L.aU; have zU := L.zU; have vU := L.vU; have aF := L.aF; have zF := L.zF; have aE := L.aE; have zE := L.zE
 have uS := run_underlying L.tS
 have eg1 : ∀ args w, (callFunc 145 args).run P w = .ok (.enter 145 args) w := enters_of L.fSwap (by kernel_rfl) rfl
 have eg2 : ∀ args w, (callFunc 140 args).run P w = .ok (.enter 140 args) w := enters_of L.fRot (by kernel_rfl) rfl
 have eg3 : ∀ args w, (callFunc 126 args).run P w = .ok (.enter 126 args) w := enters_of L.fIns (by kernel_rfl) rfl
 have eg4 : ∀ args w, (callFunc 127 args).run P w = .ok (.enter 127 args) w := enters_of L.fSym (by kernel_rfl) rfl
 have eg5 : ∀ args w, (callFunc 110 args).run P w = .ok (.enter 110 args) w := enters_of L.fStable (by kernel_rfl) rfl
 have FG := L.fSym
 have S0 : Aside (SN d e w0 base ok g cap z l d0 w) := S
 have LL : Aside (SL P k) := L
 replace HC : Aside _ := HC
 clear S L
 have r1 : IntKind.i64.wrap ((m : Int) - (a : Int)) = (m : Int) - (a : Int) := by rw [IntKind.wrap_i64]; omega
 have r2 : IntKind.i64.wrap ((b : Int) - (m : Int)) = (b : Int) - (m : Int) := by rw [IntKind.wrap_i64]; omega
 go_enter FG, Try.ntmps127
 have c1z : (m : Int) - (a : Int) = 1 := by omega
 go_wp2
 go_loopg [10, 11] (b - m) (fun kx sa sb wr => ∃ (q i j : Nat), sa = .int .i64 i ∧ sb = .int .i64 j ∧ m ≤ i ∧ i ≤ j ∧ j ≤ b ∧ j - i ≤ q ∧ q ≤ kx ∧ Aside (SN d e w0 base ok g cap z l d0 wr) ∧ Hid (bs (fun h => ltC cf d0[h]! d0[a]!) q i j = bs (fun h => ltC cf d0[h]! d0[a]!) (b - m) (m) (b)))
 case atStart => exact ⟨b - m, m, b, by go_num, by go_num, Nat.le_refl _, by omega, Nat.le_refl _, by omega, Nat.le_refl _, S0, rfl⟩
 case round =>
  obtain ⟨q, i, j, rfl, rfl, hmi, hij, hjb, hq, hkx, S1, HE⟩ := hrel
  clear S0
  by_cases hlt : i < j
  ·obtain ⟨q, rfl⟩ : ∃ q', q = q' + 1 := ⟨q - 1, by omega⟩
   have hltz : (i : Int) < (j : Int) := by omega
   obtain ⟨h, hh⟩ : ∃ h, h = (i + j) / 2 := ⟨_, rfl⟩
   have hz : ((i : Int) + (j : Int)) / 2 = (h : Int) := by omega
   have hlo : i ≤ h := by omega
   have hhi : h < j := by omega
   have hB := HE.out
   rw [bs_step, if_pos hlt, ← hh] at hB
   replace hB : Aside _ := hB
   clear hh HE
   have hd0 := S1.out.1
   have q1 : (h : Int) < (l.length : Int) := by omega
   have q2 : (a : Int) < (l.length : Int) := by omega
   cases hL : ltC cf d0[h]! d0[a]! with
   | true =>
    obtain ⟨cX, nX, FX, lX0, _⟩ := S1.out.elem h (by omega)
    obtain ⟨cY, nY, FY, lY0, _⟩ := S1.out.elem a (by omega)
    rw [hk] at nX nY lX0 lY0
    have lX := fun q => lX0 q P
    have lY := fun q => lY0 q P
    obtain ⟨vc, hvc⟩ : ∃ v, v = cf d0[h]! d0[a]! := ⟨_, rfl⟩
    have hcc : ∀ q : Bw wr, Calls P gF #[.agg cX.toArray, .agg cY.toArray] q.1 fun e w' => e = .returned (.int .i64 vc) ∧ Below q.1.heap.size q.1 w' := fun q => by rw [hvc]; exact HC.out q.1 _ _ _ _ (fk_below FX q.2) (fk_below FY q.2)
    have hv : vc < 0 := by rw [hvc]; exact of_decide_eq_true hL
    have hd : decide (vc < 0) = true := decide_eq_true hv
    clear hvc lX0 lY0 FX FY
    go_wp2_with fail
    refine wp_region_quiet_below (by assumption) (by kernel_rfl) ?_
    repeat (quiet_step (first | (go_at_fn gF; refine Calls.below_of (hcc _))))
    refine wpQuiet_nil ?_
    intro _ hw'
    obtain ⟨pq, hw''⟩ := hw'
    subst hw''
    have S2 : Aside (SN d e w0 base ok g cap z l d0 pq.1) := S1.out.below pq.2
    clear lX lY hcc S1
    generalize pq.1 = w2 at S2 ⊢
    clear pq
    go_wp2
    go_roundg q
    case measure => omega
    case rel =>
     have hC := hB.out
     rw [if_pos hL] at hC
     exact ⟨q, h + 1, j, by go_num, by go_num, by omega, by omega, by omega, by omega, Nat.le_refl _, S2, hC⟩
   | false =>
    obtain ⟨cX, nX, FX, lX0, _⟩ := S1.out.elem h (by omega)
    obtain ⟨cY, nY, FY, lY0, _⟩ := S1.out.elem a (by omega)
    rw [hk] at nX nY lX0 lY0
    have lX := fun q => lX0 q P
    have lY := fun q => lY0 q P
    obtain ⟨vc, hvc⟩ : ∃ v, v = cf d0[h]! d0[a]! := ⟨_, rfl⟩
    have hcc : ∀ q : Bw wr, Calls P gF #[.agg cX.toArray, .agg cY.toArray] q.1 fun e w' => e = .returned (.int .i64 vc) ∧ Below q.1.heap.size q.1 w' := fun q => by rw [hvc]; exact HC.out q.1 _ _ _ _ (fk_below FX q.2) (fk_below FY q.2)
    have hv : ¬ vc < 0 := by rw [hvc]; exact of_decide_eq_false hL
    have hd : decide (vc < 0) = false := decide_eq_false hv
    clear hvc lX0 lY0 FX FY
    go_wp2_with fail
    refine wp_region_quiet_below (by assumption) (by kernel_rfl) ?_
    repeat (quiet_step (first | (go_at_fn gF; refine Calls.below_of (hcc _))))
    refine wpQuiet_nil ?_
    intro _ hw'
    obtain ⟨pq, hw''⟩ := hw'
    subst hw''
    have S2 : Aside (SN d e w0 base ok g cap z l d0 pq.1) := S1.out.below pq.2
    clear lX lY hcc S1
    generalize pq.1 = w2 at S2 ⊢
    clear pq
    go_wp2
    go_roundg q
    case measure => omega
    case rel =>
     have hC := hB.out
     rw [if_neg (by rw [hL]; decide)] at hC
     exact ⟨q, i, h, by go_num, by go_num, by omega, by omega, by omega, by omega, Nat.le_refl _, S2, hC⟩
  ·have hltz : ¬ (i : Int) < (j : Int) := by omega
   have hB := HE.out
   rw [bs_stop _ _ _ _ hlt] at hB
   replace hB : Aside _ := hB
   clear HE
   have ri : IntKind.i64.wrap ((i : Int) - 1) = (i : Int) - 1 := by rw [IntKind.wrap_i64]; omega
   clear r1 r2
   go_wp2
   go_loopg [13] (i - 1 - a) (fun kx s13 wr => ∃ (n kk : Nat) (dk : Array Nat), s13 = .int .i64 kk ∧ a ≤ kk ∧ kk + n + 1 = i ∧ n ≤ kx ∧ dk.size = l.length ∧ Aside (SN d e w0 base ok g cap z l dk wr) ∧ Hid (up n kk dk = up (i - 1 - a) a d0))
   case atStart => exact ⟨i - 1 - a, a, d0, rfl, Nat.le_refl _, by omega, Nat.le_refl _, S1.out.1, S1, rfl⟩
   case round =>
    obtain ⟨n, kk, dk, rfl, hak, hkn, hkx2, hds, S2, HE⟩ := hrel
    clear S1
    cases n with
    | succ n =>
     have hltk : (kk : Int) < (i : Int) - 1 := by omega
     have ea : ((kk : Int)).toNat = kk := by omega
     have pa : (0 : Int) ≤ (kk : Int) := by omega
     have ba : (kk : Int) < (l.length : Int) := by omega
     have ra : IntKind.i64.wrap ((kk : Int)) = (kk : Int) := by rw [IntKind.wrap_i64]; omega
     have ec : ((kk : Int) + 1).toNat = kk + 1 := by omega
     have pc : (0 : Int) ≤ (kk : Int) + 1 := by omega
     have bc : (kk : Int) + 1 < (l.length : Int) := by omega
     have rc : IntKind.i64.wrap ((kk : Int) + 1) = (kk : Int) + 1 := by rw [IntKind.wrap_i64]; omega
     obtain ⟨cI, cJ, nI, nJ, lI, lJ, sI, sJ, S3⟩ := S2.out.swap kk (kk + 1) (by omega) (by omega)
     rw [hk] at nI nJ lI lJ sI sJ S3
     replace lI := lI P
     replace lJ := lJ P
     replace sI := sI P
     replace sJ := sJ P
     replace S3 : Aside _ := S3
     clear S2
     go_wp2_with fail
     go_big_region_o
     clear lI lJ sI sJ
     generalize (wr.drew.setCells g (kk * k) cJ).setCells g ((kk + 1) * k) cI = w3 at S3 ⊢
     go_wp2
     go_roundg n
     case measure => omega
     case rel => exact ⟨n, kk + 1, swp dk kk (kk + 1), by go_num, by omega, by omega, Nat.le_refl _, by rw [size_swp]; exact hds, S3, HE⟩
    | zero =>
     have hltk : ¬ (kk : Int) < (i : Int) - 1 := by omega
     go_wp2
     (try simp only [Exit.inBlock, Exit.then]); refine bodyPost_ret (results_none rfl _ _ _) rfl ?_
     refine ⟨rfl, ?_⟩
     rw [sym_one _ _ _ _ _ _ c1, ← hB.out, ← HE.out]
     exact S2.out
set_option maxHeartbeats 16000000 in
set_option maxRecDepth 1000000 in
theorem sym_calls2 {P : Program} {k : Nat} (L : SL P k) {α : Type} {d : Kd α} (hk : d.sz = k) {e : Nat} {w0 : World} {base : Nat} {ok : Nat → Prop} {g cap : Nat} {z : α} {l : List α} (gF : Nat) (eg : ∀ args w, (callFunc gF args).run P w = .ok (.enter gF args) w) (cf : Nat → Nat → Int) (HC : Cmp P gF d z l cf) (hsz : l.length < 4611686018427387904) (f a m b : Nat) (d0 : Array Nat) (w : World) (S : SN d e w0 base ok g cap z l d0 w) (ham : a < m) (hmb : m < b) (hb : b ≤ l.length) (hf : b - a ≤ f + 1) (c1 : ¬ m - a = 1) (c2 : b - m = 1) :
  Calls P 127 #[.slice (some ⟨g, 0, none⟩) l.length cap, .int .i64 a, .int .i64 m, .int .i64 b, .func (.func gF) #[] #[]] w fun e' w' => e' = .returned (.tuple #[]) ∧ SN d e w0 base ok g cap z l (symMerge (ltC cf) (f + 1) a m b d0) w' := by
 have mixed := L.mixed; have t3 := L.t3; have a3 := L.a3; have z3 := L.z3; have v3 := L.v3; have t4 := L.t4; have a4 := L.a4; have z4 := L.z4; have v4 := L.v4; have tS := L.tS; have aS := L.aS; have zS := L.zS; have vS := L.vS; have tU := L.tU; have aU := L.aU; have zU := L.zU; have vU := L.vU; have aF := L.aF; have zF := L.zF; have aE := L.aE; have zE := L.zE
 have uS := run_underlying L.tS
 have eg1 : ∀ args w, (callFunc 145 args).run P w = .ok (.enter 145 args) w := enters_of L.fSwap (by kernel_rfl) rfl
 have eg2 : ∀ args w, (callFunc 140 args).run P w = .ok (.enter 140 args) w := enters_of L.fRot (by kernel_rfl) rfl
 have eg3 : ∀ args w, (callFunc 126 args).run P w = .ok (.enter 126 args) w := enters_of L.fIns (by kernel_rfl) rfl
 have eg4 : ∀ args w, (callFunc 127 args).run P w = .ok (.enter 127 args) w := enters_of L.fSym (by kernel_rfl) rfl
 have eg5 : ∀ args w, (callFunc 110 args).run P w = .ok (.enter 110 args) w := enters_of L.fStable (by kernel_rfl) rfl
 have FG := L.fSym
 have S0 : Aside (SN d e w0 base ok g cap z l d0 w) := S
 have LL : Aside (SL P k) := L
 replace HC : Aside _ := HC
 clear S L
 have r1 : IntKind.i64.wrap ((m : Int) - (a : Int)) = (m : Int) - (a : Int) := by rw [IntKind.wrap_i64]; omega
 have r2 : IntKind.i64.wrap ((b : Int) - (m : Int)) = (b : Int) - (m : Int) := by rw [IntKind.wrap_i64]; omega
 go_enter FG, Try.ntmps127
 have c1z : ¬ (m : Int) - (a : Int) = 1 := by omega
 have c2z : (b : Int) - (m : Int) = 1 := by omega
 go_wp2
 go_loopg [14, 15] (m - a) (fun kx sa sb wr => ∃ (q i j : Nat), sa = .int .i64 i ∧ sb = .int .i64 j ∧ a ≤ i ∧ i ≤ j ∧ j ≤ m ∧ j - i ≤ q ∧ q ≤ kx ∧ Aside (SN d e w0 base ok g cap z l d0 wr) ∧ Hid (bs (fun h => !ltC cf d0[m]! d0[h]!) q i j = bs (fun h => !ltC cf d0[m]! d0[h]!) (m - a) (a) (m)))
 case atStart => exact ⟨m - a, a, m, by go_num, by go_num, Nat.le_refl _, by omega, Nat.le_refl _, by omega, Nat.le_refl _, S0, rfl⟩
 case round =>
  obtain ⟨q, i, j, rfl, rfl, hmi, hij, hjb, hq, hkx, S1, HE⟩ := hrel
  clear S0
  by_cases hlt : i < j
  ·obtain ⟨q, rfl⟩ : ∃ q', q = q' + 1 := ⟨q - 1, by omega⟩
   have hltz : (i : Int) < (j : Int) := by omega
   obtain ⟨h, hh⟩ : ∃ h, h = (i + j) / 2 := ⟨_, rfl⟩
   have hz : ((i : Int) + (j : Int)) / 2 = (h : Int) := by omega
   have hlo : i ≤ h := by omega
   have hhi : h < j := by omega
   have hB := HE.out
   rw [bs_step, if_pos hlt, ← hh] at hB
   replace hB : Aside _ := hB
   clear hh HE
   have hd0 := S1.out.1
   have q1 : (h : Int) < (l.length : Int) := by omega
   have q2 : (m : Int) < (l.length : Int) := by omega
   cases hL : ltC cf d0[m]! d0[h]! with
   | true =>
    obtain ⟨cX, nX, FX, lX0, _⟩ := S1.out.elem m (by omega)
    obtain ⟨cY, nY, FY, lY0, _⟩ := S1.out.elem h (by omega)
    rw [hk] at nX nY lX0 lY0
    have lX := fun q => lX0 q P
    have lY := fun q => lY0 q P
    obtain ⟨vc, hvc⟩ : ∃ v, v = cf d0[m]! d0[h]! := ⟨_, rfl⟩
    have hcc : ∀ q : Bw wr, Calls P gF #[.agg cX.toArray, .agg cY.toArray] q.1 fun e w' => e = .returned (.int .i64 vc) ∧ Below q.1.heap.size q.1 w' := fun q => by rw [hvc]; exact HC.out q.1 _ _ _ _ (fk_below FX q.2) (fk_below FY q.2)
    have hv : vc < 0 := by rw [hvc]; exact of_decide_eq_true hL
    have hd : decide (vc < 0) = true := decide_eq_true hv
    clear hvc lX0 lY0 FX FY
    go_wp2_with fail
    refine wp_region_quiet_below (by assumption) (by kernel_rfl) ?_
    repeat (quiet_step (first | (go_at_fn gF; refine Calls.below_of (hcc _))))
    refine wpQuiet_nil ?_
    intro _ hw'
    obtain ⟨pq, hw''⟩ := hw'
    subst hw''
    have S2 : Aside (SN d e w0 base ok g cap z l d0 pq.1) := S1.out.below pq.2
    clear lX lY hcc S1
    generalize pq.1 = w2 at S2 ⊢
    clear pq
    go_wp2
    go_roundg q
    case measure => omega
    case rel =>
     have hC := hB.out
     rw [if_neg (by rw [hL]; decide)] at hC
     exact ⟨q, i, h, by go_num, by go_num, by omega, by omega, by omega, by omega, Nat.le_refl _, S2, hC⟩
   | false =>
    obtain ⟨cX, nX, FX, lX0, _⟩ := S1.out.elem m (by omega)
    obtain ⟨cY, nY, FY, lY0, _⟩ := S1.out.elem h (by omega)
    rw [hk] at nX nY lX0 lY0
    have lX := fun q => lX0 q P
    have lY := fun q => lY0 q P
    obtain ⟨vc, hvc⟩ : ∃ v, v = cf d0[m]! d0[h]! := ⟨_, rfl⟩
    have hcc : ∀ q : Bw wr, Calls P gF #[.agg cX.toArray, .agg cY.toArray] q.1 fun e w' => e = .returned (.int .i64 vc) ∧ Below q.1.heap.size q.1 w' := fun q => by rw [hvc]; exact HC.out q.1 _ _ _ _ (fk_below FX q.2) (fk_below FY q.2)
    have hv : ¬ vc < 0 := by rw [hvc]; exact of_decide_eq_false hL
    have hd : decide (vc < 0) = false := decide_eq_false hv
    clear hvc lX0 lY0 FX FY
    go_wp2_with fail
    refine wp_region_quiet_below (by assumption) (by kernel_rfl) ?_
    repeat (quiet_step (first | (go_at_fn gF; refine Calls.below_of (hcc _))))
    refine wpQuiet_nil ?_
    intro _ hw'
    obtain ⟨pq, hw''⟩ := hw'
    subst hw''
    have S2 : Aside (SN d e w0 base ok g cap z l d0 pq.1) := S1.out.below pq.2
    clear lX lY hcc S1
    generalize pq.1 = w2 at S2 ⊢
    clear pq
    go_wp2
    go_roundg q
    case measure => omega
    case rel =>
     have hC := hB.out
     rw [if_pos (by rw [hL]; rfl)] at hC
     exact ⟨q, h + 1, j, by go_num, by go_num, by omega, by omega, by omega, by omega, Nat.le_refl _, S2, hC⟩
  ·have hltz : ¬ (i : Int) < (j : Int) := by omega
   have hB := HE.out
   rw [bs_stop _ _ _ _ hlt] at hB
   replace hB : Aside _ := hB
   clear HE
   clear r1 r2
   go_wp2
   go_loopg [17] (m - i) (fun kx s17 wr => ∃ (n kk : Nat) (dk : Array Nat), s17 = .int .i64 kk ∧ kk ≤ m ∧ i + n = kk ∧ n ≤ kx ∧ dk.size = l.length ∧ Aside (SN d e w0 base ok g cap z l dk wr) ∧ Hid (down n kk dk = down (m - i) m d0))
   case atStart => exact ⟨m - i, m, d0, rfl, Nat.le_refl _, by omega, Nat.le_refl _, S1.out.1, S1, rfl⟩
   case round =>
    obtain ⟨n, kk, dk, rfl, hak, hkn, hkx2, hds, S2, HE⟩ := hrel
    clear S1
    cases n with
    | succ n =>
     obtain ⟨kp, rfl⟩ : ∃ kp, kk = kp + 1 := ⟨kk - 1, by omega⟩
     have hltk : (i : Int) < (kp : Int) + 1 := by omega
     have rk : IntKind.i64.wrap (kp : Int) = (kp : Int) := by rw [IntKind.wrap_i64]; omega
     have ea : ((kp : Int) + 1).toNat = kp + 1 := by omega
     have pa : (0 : Int) ≤ (kp : Int) + 1 := by omega
     have ba : (kp : Int) + 1 < (l.length : Int) := by omega
     have ra : IntKind.i64.wrap ((kp : Int) + 1) = (kp : Int) + 1 := by rw [IntKind.wrap_i64]; omega
     have ec : ((kp : Int)).toNat = kp := by omega
     have pc : (0 : Int) ≤ (kp : Int) := by omega
     have bc : (kp : Int) < (l.length : Int) := by omega
     have rc : IntKind.i64.wrap ((kp : Int)) = (kp : Int) := by rw [IntKind.wrap_i64]; omega
     obtain ⟨cI, cJ, nI, nJ, lI, lJ, sI, sJ, S3⟩ := S2.out.swap (kp + 1) kp (by omega) (by omega)
     rw [hk] at nI nJ lI lJ sI sJ S3
     replace lI := lI P
     replace lJ := lJ P
     replace sI := sI P
     replace sJ := sJ P
     replace S3 : Aside _ := S3
     clear S2
     go_wp2_with fail
     go_big_region_o
     clear lI lJ sI sJ
     generalize (wr.drew.setCells g ((kp + 1) * k) cJ).setCells g (kp * k) cI = w3 at S3 ⊢
     go_wp2
     go_roundg n
     case measure => omega
     case rel => exact ⟨n, kp, swp dk (kp + 1) kp, by go_num, by omega, by omega, Nat.le_refl _, by rw [size_swp]; exact hds, S3, HE⟩
    | zero =>
     have hltk : ¬ (i : Int) < (kk : Int) := by omega
     go_wp2
     (try simp only [Exit.inBlock, Exit.then]); refine bodyPost_ret (results_none rfl _ _ _) rfl ?_
     refine ⟨rfl, ?_⟩
     rw [sym_two _ _ _ _ _ _ c1 c2, ← hB.out, ← HE.out]
     exact S2.out
end Go.Proofs.YtapgfamppnhnmaaSort
