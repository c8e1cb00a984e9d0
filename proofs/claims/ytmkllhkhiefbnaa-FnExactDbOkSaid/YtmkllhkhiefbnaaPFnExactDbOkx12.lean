-- WRITTEN BY xprint.py, a program of this session over the kit's printer: by nobody's hand
-- PRESSED
import Derived.Test.YtmkllhkhiefbnaaPress
import Derived.Test.YtmkllhkhiefbnaaPFnExactDbOkx0
import Derived.Test.YtmkllhkhiefbnaaPFnExactDbOkx1
import Derived.Test.YtmkllhkhiefbnaaPFnExactDbOkx2
import Derived.Test.YtmkllhkhiefbnaaPFnExactDbOkx4
import Derived.Test.YtmkllhkhiefbnaaPFnExactDbOkx8
import Derived.Test.YtmkllhkhiefbnaaPFnExactDbOkx9
import Derived.Test.YtmkllhkhiefbnaaPFnExactDbOkx11
namespace Go.Proofs.Ytmkllhkhiefbnaa.PFnExactDbOk
open Go.RowKit Go.Proofs.YtmkllhkhiefbnaaW.PrintWords Go.Proofs.YtmkllhkhiefbnaaW.PrintLast Go.Proofs.YtmkllhkhiefbnaaW.PrintMore
set_option linter.unusedVariables false
set_option linter.unusedSimpArgs false

/-! ### slices.IndexFunc[[]loop.example/g00312/impl.Counted,loop.example/g00312/impl.Counted]: function 64 -/
set_option maxHeartbeats 4000000 in
set_option maxRecDepth 100000 in
theorem IndexFunc_T89.calls (f : S89 → Option Bool) (g : Nat) (lb : Array Value) (eg : ∀ args w, (callFunc g args).run Try.prog w = .ok (.enter g args) w) (A : Option Addr) (c : Nat) (xs : List S89) (r : Int) (w : World) (hr : Kd.C k89 w A xs.length xs) (hp : CB Try.prog k89 (fun cs => Value.agg cs.toArray) g lb f xs w) (h : idxO f xs 0 = some r) :
  Calls Try.prog 64 #[.slice A xs.length c, .func (.func g) #[] lb] w fun e w' => e = .returned (.int .i64 r) ∧ Below w.heap.size w w' := by
 have hbig : xs.length ≤ 9223372036854775807 := hr.2.1
 have HR := Aside0.mk hr
 have HP := Aside0.mk hp
 have HX := Aside0.mk h
 clear hr hp h
 go_enter Try.func64, Try.ntmps64
 go_wp2
 go_loopg [5, 8] xs.length (fun gg _ s8 wr => ∃ x : Int, s8 = .int .i64 x ∧ Aside0 (0 ≤ x ∧ x ≤ xs.length ∧ xs.length - x.toNat ≤ gg ∧ idxO f (xs.drop x.toNat) x = some r ∧ Below w.heap.size w wr))
 case atStart => exact ⟨0, rfl, ⟨by omega, by omega, by simp, by simpa using HX.out, Below.refl _ _⟩⟩
 case round =>
  obtain ⟨x, rfl, HI⟩ := hrel
  obtain ⟨x0, x1, hg, hi, BW⟩ := HI.out
  by_cases hlt : x < (xs.length : Int)
  ·have c4 : decide (x < (xs.length : Int)) = true := decide_eq_true hlt
   have c5 : decide (0 ≤ x) = true := decide_eq_true x0
   obtain ⟨ad, cs, rfl, hl, hK, hcell⟩ := Kd.C_get (Kd.C_below HR.out BW) (z89 : S89) x x0 hlt
   obtain ⟨b, hb, hm, ht, hf⟩ := idxO_step (z89 : S89) x0 hlt hi
   generalize xs.getD x.toNat (z89 : S89) = p at hK hb hm
   have hK0 := hK
   obtain ⟨aA0, aC0, rfl, _, _⟩ := k89_open hK
   have hcell1 : ∀ j u, ([(.slice aA0 p.f0.length aC0), (.int .i64 p.f1)] : List Value)[j]? = some u → wr.cell? (ad.add (x.toNat * 2 + j)) = some u := hcell
   have hc0 : wr.cell? (ad.add (x.toNat * 2)) = some (.slice aA0 p.f0.length aC0) := hcell1 0 _ rfl
   have hc1 : wr.cell? ⟨(ad.add (x.toNat * 2)).block, (ad.add (x.toNat * 2)).off + 1, none⟩ = some (.int .i64 p.f1) := by rw [← add_field _ _ 1 (by omega)]; exact hcell1 1 _ rfl
   have hcall : Calls Try.prog g (#[(.agg #[(.slice aA0 p.f0.length aC0), (.int .i64 p.f1)])] ++ lb) wr (fun e w' => e = .returned (.bool b) ∧ Below wr.heap.size wr w') := HP.out wr _ _ b BW hm hK0 hb
   cases b with
   | true =>
    have HJ := Aside0.mk (And.intro (ht rfl) BW)
    clear hcell hcell1 hK hb hm ht hf hi BW HI hg hl hK0
    go_wp2_with (go_at_fn g; refine hcall.mono ?_; rintro e w' ⟨rfl, hb'⟩)
    go_ret
    exact ⟨ret_int_eq HJ.out.1.symm, HJ.out.2.trans (hb'.mono HJ.out.2.size)⟩
   | false =>
    have HJ := Aside0.mk (And.intro hg (And.intro (hf rfl) BW))
    clear hcell hcell1 hK hb hm ht hf hi BW HI hg hl hK0
    go_wp2_with (go_at_fn g; refine hcall.mono ?_; rintro e w' ⟨rfl, hb'⟩)
    go_roundg (xs.length - (x.toNat + 1))
    case measure => have := HJ.out.1; omega
    case rel => exact ⟨x + 1, by go_num, ⟨by omega, by omega, by omega, HJ.out.2.1, HJ.out.2.2.trans (hb'.mono HJ.out.2.2.size)⟩⟩
  ·have c4 : decide (x < (xs.length : Int)) = false := decide_eq_false hlt
   have hr : r = -1 := idxO_end hlt hi
   clear hi HI
   subst hr
   go_wp2
   go_ret
   exact ⟨rfl, BW⟩

/-! ### slices.ContainsFunc[[]loop.example/g00312/impl.Counted,loop.example/g00312/impl.Counted]: function 128 -/
set_option maxHeartbeats 4000000 in
set_option maxRecDepth 100000 in
theorem ContainsFunc_T89.calls (f : S89 → Option Bool) (g : Nat) (lb : Array Value) (eg : ∀ args w, (callFunc g args).run Try.prog w = .ok (.enter g args) w) (A : Option Addr) (c : Nat) (xs : List S89) (r : Int) (w : World) (hr : Kd.C k89 w A xs.length xs) (hp : CB Try.prog k89 (fun cs => Value.agg cs.toArray) g lb f xs w) (h : idxO f xs 0 = some r) :
  Calls Try.prog 128 #[.slice A xs.length c, .func (.func g) #[] lb] w fun e w' => e = .returned (.bool (decide (r ≥ 0))) ∧ Below w.heap.size w w' := by
 have hcall := IndexFunc_T89.calls f g lb eg A c xs r w hr hp h
 clear hr hp h
 go_enter Try.func128, Try.ntmps128
 go_wp2_with (go_at_call 64; refine hcall.mono ?_; rintro e w' ⟨rfl, hb'⟩)
 go_ret
 exact ⟨rfl, hb'⟩

-- NOT PRINTED: function 129 (impl_Counted_1)

/-! ### loop.example/g00312/impl.areAll[loop.example/g00312/impl.Counted]: function 72 -/
set_option maxHeartbeats 4000000 in
set_option maxRecDepth 100000 in
theorem areAll_T89.not (f : S89 → Option Bool) (g : Nat) (lb : Array Value) (eg : ∀ args w, (callFunc g args).run Try.prog w = .ok (.enter g args) w) (B : Nat) (xs : List S89) (w : World) (hB : B < w.heap.size) (hp : CB Try.prog k89 (fun cs => Value.agg cs.toArray) g lb f xs w) (hc : w.cell? ⟨B, 0, none⟩ = some (.func (.func g) #[] lb)) :
  CB Try.prog k89 (fun cs => Value.agg cs.toArray) 129 #[.pointer (some ⟨B, 0, none⟩)] (fun x => (f x).map not) xs w := by
   intro W x cs b hb hm hK hf
   obtain ⟨t, ht, rfl⟩ := Option.map_eq_some_iff.1 hf
   have hK0 := hK
   have hc' : W.cell? ⟨B, 0, none⟩ = some (.func (.func g) #[] lb) := (hb.cell (p := ⟨B, 0, none⟩) hB).trans hc
   obtain ⟨aA0, aC0, rfl, _, _⟩ := k89_open hK
   have hcall : ∀ W1, Below W.heap.size W W1 → Calls Try.prog g (#[(.agg #[(.slice aA0 x.f0.length aC0), (.int .i64 x.f1)])] ++ lb) W1 (fun e w' => e = .returned (.bool t) ∧ Below W1.heap.size W1 w') := fun W1 h1 => hp W1 x _ t (hb.trans (h1.mono hb.size)) hm (Kd.K_below _ h1 hK0) ht
   have hcd := fun o : Obj => cell_alloc_old o hc'
   have HN := Aside0.mk (show B ≠ W.heap.size from fun e => by have := hb.size; omega)
   clear hp hf hK hK0 hm hb hc ht 
   have hBW := HN.out
   have hBW' := Ne.symm hBW
   show Calls Try.prog 129 #[(.agg #[(.slice aA0 x.f0.length aC0), (.int .i64 x.f1)]), .pointer (some ⟨B, 0, none⟩)] W _
   go_enter Try.func129, Try.ntmps129
   go_wp2_with (go_at_fn g; refine (hcall _ (by first | exact Below.refl _ _ | exact below_alloc (Below.refl _ _) _)).mono ?_; rintro e w' ⟨rfl, hb'⟩)
   go_ret
   exact ⟨rfl, by first | exact hb' | exact (below_alloc (Below.refl _ _) _ : Below W.heap.size W _).trans (hb'.mono (by simp))⟩
set_option maxHeartbeats 4000000 in
set_option maxRecDepth 100000 in
theorem areAll_T89.calls (f : S89 → Option Bool) (g : Nat) (lb : Array Value) (eg : ∀ args w, (callFunc g args).run Try.prog w = .ok (.enter g args) w) (A : Option Addr) (c : Nat) (xs : List S89) (r : Bool) (w : World) (hr : Kd.C k89 w A xs.length xs) (hp : CB Try.prog k89 (fun cs => Value.agg cs.toArray) g lb f xs w) (h : allO f xs = some r) :
  Calls Try.prog 72 #[.slice A xs.length c, .func (.func g) #[] lb] w fun e w' => e = .returned (.bool r) ∧ Below w.heap.size w w' := by
 obtain ⟨j, hj, hjr⟩ := idxO_not h 0 (Int.le_refl _)
 have e_l : ∀ args w, (callFunc 129 args).run Try.prog w = .ok (.enter 129 args) w := enters_of Try.func129 (by kernel_rfl) rfl
 have hB0 : Below w.heap.size w (w.alloc (.cells #[.func (.func g) #[] lb] 92)) := below_alloc (Below.refl _ _) _
 have hp1 := CB.later hB0 hp
 have hnot := areAll_T89.not f g lb eg w.heap.size xs _ (by simp) hp1 (by simp)
 have hcall := ContainsFunc_T89.calls _ 129 _ e_l A c xs j _ (Kd.C_below hr hB0) hnot hj
 have HJ := Aside0.mk hjr
 clear hr hp h hjr hj hp1 hnot hB0
 go_enter Try.func72, Try.ntmps72
 go_wp2_with (go_at_call 128; refine hcall.mono ?_; rintro e w' ⟨rfl, hb'⟩)
 go_ret
 exact ⟨ret_bool_eq (by rw [HJ.out]; cases r <;> rfl), (below_alloc (Below.refl _ _) _ : Below w.heap.size w _).trans (hb'.mono (by simp))⟩

/-! ### impl_Plain_1: function 73 -/
def impl_Plain_1.f (l0_0 : List (S29)) (a0_1 : Int) : Option (Bool) := some (decide (a0_1 > 0))
set_option maxHeartbeats 8000000 in
set_option maxRecDepth 100000 in
theorem impl_Plain_1.calls (A0_0 : Option Addr) (c0_0 : Nat) (l0_0 : List (S29)) (a0_1 : Int) (r : Bool) (w : World) (hr0_0 : Kd.C k29 w A0_0 l0_0.length l0_0) (hc0_0 : l0_0.length ≤ c0_0) (h : impl_Plain_1.f l0_0 a0_1 = some r) :
  Calls Try.prog 73 #[.agg #[.slice A0_0 l0_0.length c0_0, .int .i64 a0_1]] w fun e w' => e = .returned (.bool r) ∧ Below w.heap.size w w' := by
 have hu89 := Try.underlying89
 have HR0_0 := Aside0.mk hr0_0
 have HC0_0 := Aside0.mk hc0_0
 clear hr0_0 hc0_0
 have HB := Aside0.mk (Below.refl w.heap.size w)
 have H : (some (decide (a0_1 > 0))) = some r := h
 clear h
 obtain rfl := Option.some.inj H
 go_enter Try.func73, Try.ntmps73
 go_wp2_with (first | ((with_reducible refine gate_dst (N := 1) rfl ?_); refine bx_ 1 #[.slice A0_0 l0_0.length c0_0, .int .i64 a0_1] 89 ?_; intro gb243 hg w2 hbox hb; have BK243 := Aside0.mk (hbox); have GW243 := gw_ hg; have GE243 := gw_ hg; replace HB := bs_ hb; clear hb hbox hg; have hcz3_0 := bc_ (v := (.slice A0_0 l0_0.length c0_0)) BK243 0; have hcz3_1 := bc_ (v := (.int .i64 a0_1)) BK243 1; have hfz3_0 := blk_frozen BK243.out 0; have hfz3_1 := blk_frozen BK243.out 1))
 go_ret
 exact ⟨er_, bb_⟩

/-! ### impl_Plain: function 29 -/
-- by hand
def impl_Plain.f (k : Nat) (a0 : Int) (l0 : List S89) : Option Bool := (impl_BagOk.f k a0 l0).bind fun t => if t = true then allO (fun x => impl_Plain_1.f x.f0 x.f1) l0 else some false
theorem Plain_cb (xs : List S89) (w : World) : CB Try.prog k89 (fun cs => Value.agg cs.toArray) 73 #[] (fun x => impl_Plain_1.f x.f0 x.f1) xs w := by
  intro W x cs b _ _ hK hf
  obtain ⟨A0, c0, rfl, hl0, hg0⟩ := k89_open hK
  refine Calls.mono (show Calls Try.prog 73 #[.agg #[.slice A0 x.f0.length c0, .int .i64 x.f1]] W _ from impl_Plain_1.calls A0 c0 _ _ b W hg0 hl0 hf) ?_
  rintro e w' ⟨rfl, hb⟩
  exact ⟨rfl, hb⟩
set_option maxHeartbeats 2000000 in
set_option maxRecDepth 100000 in
theorem impl_Plain.calls (k : Nat) (a0_0 : Int) (A0_1 : Option Addr) (c0_1 : Nat) (l0_1 : List (S89)) (r : Bool) (w : World) (hr0_1 : Kd.C k89 w A0_1 l0_1.length l0_1) (hc0_1 : l0_1.length ≤ c0_1) (h : impl_Plain.f k a0_0 l0_1 = some r) :
    Calls Try.prog 29 #[.agg #[.int .i64 a0_0, .slice A0_1 l0_1.length c0_1]] w fun e w' => e = .returned (.bool r) ∧ Below w.heap.size w w' := by
  obtain ⟨t, ht, h⟩ := Option.bind_eq_some_iff.1 h
  have hu1 := Try.underlying45
  have eg : ∀ args w, (callFunc 73 args).run Try.prog w = .ok (.enter 73 args) w := enters_of Try.func73 (by kernel_rfl) rfl
  have hB1 : Below w.heap.size w (w.alloc (.cells #[.int .i64 a0_0, .slice A0_1 l0_1.length c0_1] 45)) := below_alloc (Below.refl _ _) _
  have hbag := impl_BagOk.calls k a0_0 A0_1 c0_1 l0_1 t _ (Kd.C_below hr0_1 hB1) hc0_1 ht
  have HB1 := Aside0.mk hB1
  cases t with
  | false =>
    obtain rfl : false = r := by simpa using h
    clear h ht hr0_1 hB1
    go_enter Try.func29, Try.ntmps29
    go_wp2_with (go_at_call 27; refine hbag.mono ?_; rintro e w' ⟨rfl, hb'⟩)
    go_ret
    exact ⟨rfl, HB1.out.trans (hb'.mono HB1.out.size)⟩
  | true =>
    rw [if_pos rfl] at h
    have hall := fun W (hb : Below w.heap.size w W) => areAll_T89.calls _ 73 #[] eg A0_1 c0_1 l0_1 r W (Kd.C_below hr0_1 hb) (Plain_cb l0_1 W) h
    clear h ht hr0_1 hB1
    go_enter Try.func29, Try.ntmps29
    go_wp2_with (first
      | (go_at_call 27
         refine hbag.mono ?_
         rintro e w' ⟨rfl, hb'⟩
         have hb0 : w'.cell? ⟨w.heap.size, 1, none⟩ = some (.slice A0_1 l0_1.length c0_1) := (hb'.cell (p := ⟨w.heap.size, 1, none⟩) (by simp <;> omega)).trans ((cell_of_block (heap_alloc_new w _) 1).trans rfl)
         have HF := Aside0.mk (HB1.out.trans (hb'.mono HB1.out.size) : Below w.heap.size w w')
         clear hb')
      | (go_at_call 72
         refine (hall _ HF.out).mono ?_
         rintro e w2 ⟨rfl, hb2⟩))
    go_ret
    exact ⟨rfl, HF.out.trans (hb2.mono HF.out.size)⟩


/-! ### impl_DbOk_1: function 110 -/
def impl_DbOk_1.f (k : Nat) (a0_0 : ByteArray) (a0_1 : Int) (l0_2 : List (S89)) : Option (Bool) := (impl_Plain.f k a0_1 l0_2).bind fun t245 => (some t245)
set_option maxHeartbeats 8000000 in
set_option maxRecDepth 100000 in
theorem impl_DbOk_1.calls (k : Nat) (a0_0 : ByteArray) (a0_1 : Int) (A0_2 : Option Addr) (c0_2 : Nat) (l0_2 : List (S89)) (r : Bool) (w : World) (hr0_2 : Kd.C k89 w A0_2 l0_2.length l0_2) (hc0_2 : l0_2.length ≤ c0_2) (h : impl_DbOk_1.f k a0_0 a0_1 l0_2 = some r) :
  Calls Try.prog 110 #[.agg #[.string a0_0, .int .i64 a0_1, .slice A0_2 l0_2.length c0_2]] w fun e w' => e = .returned (.bool r) ∧ Below w.heap.size w w' := by
 have hu105 := Try.underlying105
 have hu45 := Try.underlying45
 have HR0_2 := Aside0.mk hr0_2
 have HC0_2 := Aside0.mk hc0_2
 clear hr0_2 hc0_2
 have HB := Aside0.mk (Below.refl w.heap.size w)
 have H : ((impl_Plain.f k a0_1 l0_2).bind fun t245 => (some t245)) = some r := h
 clear h
 replace H := Option.bind_eq_some_iff.mp H
 obtain ⟨t245, A20, H⟩ := H
 replace H : (some t245) = some r := H
 have A2 := Aside0.mk A20
 clear A20
 obtain rfl := Option.some.inj H
 go_enter Try.func110, Try.ntmps110
 go_wp2_with (first | ((with_reducible refine gate_dst (N := 1) rfl ?_); refine bx_ 1 #[.string a0_0, .int .i64 a0_1, .slice A0_2 l0_2.length c0_2] 105 ?_; intro gb244 hg w3 hbox hb; have BK244 := Aside0.mk (hbox); have GW244 := gw_ hg; have GE244 := gw_ hg; replace HB := bs_ hb; clear hb hbox hg; have hcz4_0 := bc_ (v := (.string a0_0)) BK244 0; have hcz4_1 := bc_ (v := (.int .i64 a0_1)) BK244 1; have hcz4_2 := bc_ (v := (.slice A0_2 l0_2.length c0_2)) BK244 2; have hfz4_0 := blk_frozen BK244.out 0; have hfz4_1 := blk_frozen BK244.out 1; have hfz4_2 := blk_frozen BK244.out 2) | ((with_reducible refine gate_callee (f := 29) rfl ?_); refine gsL_ (some 5) Try.func29 #[.agg #[.int .i64 a0_1, .slice A0_2 l0_2.length c0_2]] ?_; (with_reducible refine (impl_Plain.calls k a0_1 _ _ l0_2 t245 _ ?side1 ?side2 A2.out).mono ?_); (case side1 => exact ck_ (Kd.C_below HR0_2.out HB.out)); (case side2 => exact HC0_2.out); rintro e w5 ⟨rfl, hb⟩; refine ⟨_, rfl, ?_⟩; replace BK244 := bkb_ BK244 hb; replace HB := bs_ hb; (try clear hb); (try clear hb2); (try clear hk); (try clear hi)))
 go_ret
 exact ⟨er_, bb_⟩

/-! ### impl_DbOk: function 54 -/
-- by hand
def impl_DbOk.f (k : Nat) (l0 : List S105) : Option Bool :=
  if (l0.length : Int) ≤ 20 then ((impl_relNames.f k l0).bind fun ns => (impl_isRising.f k ns).bind fun t => if t = true then allO (fun x => impl_DbOk_1.f k x.f0 x.f1.f0 x.f1.f1) l0 else some false) else some false
theorem DbOk_cb (k : Nat) (xs : List S105) (w : World) : CB Try.prog k105 (fun cs => Value.agg cs.toArray) 110 #[] (fun x => impl_DbOk_1.f k x.f0 x.f1.f0 x.f1.f1) xs w := by
  intro W x cs b _ _ hK hf
  obtain ⟨A0, c0, rfl, hl0, hg0⟩ := k105_open hK
  refine Calls.mono (show Calls Try.prog 110 #[.agg #[.string x.f0, .int .i64 x.f1.f0, .slice A0 x.f1.f1.length c0]] W _ from impl_DbOk_1.calls k _ _ A0 c0 _ b W hg0 hl0 hf) ?_
  rintro e w' ⟨rfl, hb⟩
  exact ⟨rfl, hb⟩
set_option maxHeartbeats 2000000 in
set_option maxRecDepth 100000 in
theorem impl_DbOk.calls (k : Nat) (A0 : Option Addr) (c0 : Nat) (l0 : List (S105)) (r : Bool) (w : World) (hr0 : Kd.C k105 w A0 l0.length l0) (hc0 : l0.length ≤ c0) (h : impl_DbOk.f k l0 = some r) :
    Calls Try.prog 54 #[.slice A0 l0.length c0] w fun e w' => e = .returned (.bool r) ∧ Below w.heap.size w w' := by
  unfold impl_DbOk.f at h
  by_cases hl : (l0.length : Int) ≤ 20
  · rw [if_pos hl] at h
    have d0 : decide ((l0.length : Int) ≤ 20) = true := decide_eq_true hl
    have d1 : l0.length ≤ 20 := by omega
    obtain ⟨ns, hns, h⟩ := Option.bind_eq_some_iff.1 h
    obtain ⟨t, ht, h⟩ := Option.bind_eq_some_iff.1 h
    have hnames := impl_relNames.calls k A0 c0 l0 ns w hr0 hc0 hns
    have hrise := fun W A c hr hc => impl_isRising.calls k A c ns t W hr hc ht
    have eg : ∀ args w, (callFunc 110 args).run Try.prog w = .ok (.enter 110 args) w := enters_of Try.func110 (by kernel_rfl) rfl
    have hall : ∀ W (hb : Below w.heap.size w W), t = true → Calls Try.prog 109 #[.slice A0 l0.length c0, .func (.func 110) #[] #[]] W fun e w' => e = .returned (.bool r) ∧ Below W.heap.size W w' := fun W hb e => areAll_T105.calls _ 110 #[] eg A0 c0 l0 r W (Kd.C_below hr0 hb) (DbOk_cb k l0 W) (by rw [if_pos e] at h; exact h)
    have hfalse := Aside0.mk (show t = false → r = false from fun e => by rw [if_neg (by simp [e])] at h; exact (Option.some.inj h).symm)
    clear h ht hns hr0
    go_enter Try.func54, Try.ntmps54
    cases t with
    | false =>
      obtain rfl := hfalse.out rfl
      go_wp2_with (first
        | (go_at_call 108
           refine hnames.mono ?_
           rintro e w' ⟨v0, rfl, hR, hb⟩
           obtain ⟨A, c, rfl, hAc, hC⟩ := Kd.R_reads hR
           have HB := Aside0.mk hb
           have HC := Aside0.mk hC
           clear hR hb hnames hC)
        | (go_at_call 107
           refine (hrise _ _ _ HC.out hAc).mono ?_
           rintro e w2 ⟨rfl, hb2⟩
           have HB2 := Aside0.mk (HB.out.trans (hb2.mono HB.out.size))
           clear hb2))
      go_ret
      exact ⟨rfl, HB2.out⟩
    | true =>
      go_wp2_with (first
        | (go_at_call 108
           refine hnames.mono ?_
           rintro e w' ⟨v0, rfl, hR, hb⟩
           obtain ⟨A, c, rfl, hAc, hC⟩ := Kd.R_reads hR
           have HB := Aside0.mk hb
           have HC := Aside0.mk hC
           clear hR hb hnames hC)
        | (go_at_call 107
           refine (hrise _ _ _ HC.out hAc).mono ?_
           rintro e w2 ⟨rfl, hb2⟩
           have HB2 := Aside0.mk (HB.out.trans (hb2.mono HB.out.size))
           clear hb2)
        | (go_at_call 109
           refine (hall _ HB2.out (by trivial)).mono ?_
           rintro e w3 ⟨rfl, hb3⟩))
      go_ret
      exact ⟨rfl, HB2.out.trans (hb3.mono HB2.out.size)⟩
  · rw [if_neg hl] at h
    obtain rfl := Option.some.inj h
    have d0 : decide ((l0.length : Int) ≤ 20) = false := decide_eq_false hl
    have d1 : ¬ l0.length ≤ 20 := by omega
    clear h hl hr0
    go_enter Try.func54, Try.ntmps54
    go_wp2
    go_ret
    exact ⟨rfl, by repeat (first | exact Below.refl _ _ | apply pw_below_drewN)⟩


/-! ### laws_FnExactDbOk: function 11 -/
def laws_FnExactDbOk.f (k : Nat) (l0 : List (S99)) : Option (Bool) := (laws_szRelS.f k l0 1048576).bind fun t246 => (if t246 < 0 then (some true) else ((laws_toRelS.f k l0).bind fun t247 => ((spec_DbOk.f k t247).bind fun t250 => ((laws_toRelS.f k l0).bind fun t251 => ((impl_DbOk.f k t251).bind fun t254 => (if (t254 != t250) = true then (some false) else ((laws_toRelS.f k l0).bind fun t255 => ((laws_eqRelS.f k t251 t255).bind fun t258 => (if t258 = true then (some true) else (some false))))))))))
set_option maxHeartbeats 8000000 in
set_option maxRecDepth 100000 in
theorem laws_FnExactDbOk.calls (k : Nat) (A0 : Option Addr) (c0 : Nat) (l0 : List (S99)) (r : Bool) (w : World) (hr0 : Kd.C k99 w A0 l0.length l0) (hc0 : l0.length ≤ c0) (h : laws_FnExactDbOk.f k l0 = some r) :
  Calls Try.prog 11 #[.slice A0 l0.length c0] w fun e w' => e = .returned (.bool r) ∧ Below w.heap.size w w' := by
 have HR0 := Aside0.mk hr0
 have HC0 := Aside0.mk hc0
 clear hr0 hc0
 have HB := Aside0.mk (Below.refl w.heap.size w)
 have H : ((laws_szRelS.f k l0 1048576).bind fun t246 => (if t246 < 0 then (some true) else ((laws_toRelS.f k l0).bind fun t247 => ((spec_DbOk.f k t247).bind fun t250 => ((laws_toRelS.f k l0).bind fun t251 => ((impl_DbOk.f k t251).bind fun t254 => (if (t254 != t250) = true then (some false) else ((laws_toRelS.f k l0).bind fun t255 => ((laws_eqRelS.f k t251 t255).bind fun t258 => (if t258 = true then (some true) else (some false))))))))))) = some r := h
 clear h
 replace H := Option.bind_eq_some_iff.mp H
 obtain ⟨t246, A20, H⟩ := H
 replace H : (if t246 < 0 then (some true) else ((laws_toRelS.f k l0).bind fun t247 => ((spec_DbOk.f k t247).bind fun t250 => ((laws_toRelS.f k l0).bind fun t251 => ((impl_DbOk.f k t251).bind fun t254 => (if (t254 != t250) = true then (some false) else ((laws_toRelS.f k l0).bind fun t255 => ((laws_eqRelS.f k t251 t255).bind fun t258 => (if t258 = true then (some true) else (some false)))))))))) = some r := H
 have A2 := Aside0.mk A20
 clear A20
 by_cases c3 : t246 < 0
 ·rw [if_pos c3] at H
  have c3b0 : decide (t246 < 0) = true := decide_eq_true c3
  clear c3
  obtain rfl := Option.some.inj H
  go_enter Try.func11, Try.ntmps11
  go_wp2_with (first | ((with_reducible refine gate_callee (f := 30) rfl ?_); refine gsL_ (some 9) Try.func30 #[.slice A0 l0.length c0, .int .i64 1048576] ?_; (with_reducible refine (laws_szRelS.calls k _ _ l0 1048576 t246 _ ?side1 ?side2 A2.out).mono ?_); (case side1 => exact ck_ HR0.out); (case side2 => exact HC0.out); rintro e w4 ⟨rfl, hb⟩; refine ⟨_, rfl, ?_⟩; replace HB := bs_ hb; (try clear hb); (try clear hb2); (try clear hk); (try clear hi)))
  go_ret
  exact ⟨er_, bb_⟩
 ·rw [if_neg c3] at H
  have c3b0 : decide (t246 < 0) = false := decide_eq_false c3
  clear c3
  replace H := Option.bind_eq_some_iff.mp H
  obtain ⟨t247, A50, H⟩ := H
  replace H : ((spec_DbOk.f k t247).bind fun t250 => ((laws_toRelS.f k l0).bind fun t251 => ((impl_DbOk.f k t251).bind fun t254 => (if (t254 != t250) = true then (some false) else ((laws_toRelS.f k l0).bind fun t255 => ((laws_eqRelS.f k t251 t255).bind fun t258 => (if t258 = true then (some true) else (some false)))))))) = some r := H
  have A5 := Aside0.mk A50
  clear A50
  replace H := Option.bind_eq_some_iff.mp H
  obtain ⟨t250, A60, H⟩ := H
  replace H : ((laws_toRelS.f k l0).bind fun t251 => ((impl_DbOk.f k t251).bind fun t254 => (if (t254 != t250) = true then (some false) else ((laws_toRelS.f k l0).bind fun t255 => ((laws_eqRelS.f k t251 t255).bind fun t258 => (if t258 = true then (some true) else (some false))))))) = some r := H
  have A6 := Aside0.mk A60
  clear A60
  replace H := Option.bind_eq_some_iff.mp H
  obtain ⟨t251, A70, H⟩ := H
  replace H : ((impl_DbOk.f k t251).bind fun t254 => (if (t254 != t250) = true then (some false) else ((laws_toRelS.f k l0).bind fun t255 => ((laws_eqRelS.f k t251 t255).bind fun t258 => (if t258 = true then (some true) else (some false)))))) = some r := H
  have A7 := Aside0.mk A70
  clear A70
  replace H := Option.bind_eq_some_iff.mp H
  obtain ⟨t254, A80, H⟩ := H
  replace H : (if (t254 != t250) = true then (some false) else ((laws_toRelS.f k l0).bind fun t255 => ((laws_eqRelS.f k t251 t255).bind fun t258 => (if t258 = true then (some true) else (some false))))) = some r := H
  have A8 := Aside0.mk A80
  clear A80
  by_cases c9 : (t254 != t250) = true
  ·rw [if_pos c9] at H
   have c9b0 : (t254 != t250) = true := c9
   (try (have c9b1 : decide (t254 = t250) = false := by simpa using c9))
   (try (have c9b2 : (t254 == t250) = false := by simpa using c9))
   (try (have c9b3 : ¬ (t254 = t250) := by simpa using c9))
   clear c9
   obtain rfl := Option.some.inj H
   go_enter Try.func11, Try.ntmps11
   go_wp2_with (first | ((with_reducible refine gate_callee (f := 30) rfl ?_); refine gsL_ (some 9) Try.func30 #[.slice A0 l0.length c0, .int .i64 1048576] ?_; (with_reducible refine (laws_szRelS.calls k _ _ l0 1048576 t246 _ ?side1 ?side2 A2.out).mono ?_); (case side1 => exact ck_ HR0.out); (case side2 => exact HC0.out); rintro e w10 ⟨rfl, hb⟩; refine ⟨_, rfl, ?_⟩; replace HB := bs_ hb; (try clear hb); (try clear hb2); (try clear hk); (try clear hi)) | ((with_reducible refine gate_callee (f := 33) rfl ?_); refine gsL_ (some 13) Try.func33 #[.slice A0 l0.length c0] ?_; (with_reducible refine (laws_toRelS.calls k _ _ l0 t247 _ ?side1 ?side2 A5.out).mono ?_); (case side1 => exact ck_ (Kd.C_below HR0.out HB.out)); (case side2 => exact HC0.out); rintro e w11 ⟨v248, rfl, ho0, hb⟩; refine ⟨_, rfl, ?_⟩; have HO249 := Aside0.mk (Kd.R_lower ho0 (below_size bb_)); replace HB := bs_ hb; (try clear hb); (try clear hb2); (try clear hk); (try clear hi); (try clear ho0); obtain ⟨Ao12, co12, eo12⟩ := Kd.R_slice HO249.out; subst eo12) | ((with_reducible refine gate_callee (f := 53) rfl ?_); refine gsL_ (some 14) Try.func53 #[.slice Ao12 t247.length co12] ?_; (with_reducible refine (spec_DbOk.calls k _ _ t247 t250 _ ?side1 ?side2 A6.out).mono ?_); (case side1 => exact ck_ (Kd.R_reads' HO249.out).2.2); (case side2 => exact (Kd.R_reads' HO249.out).2.1); rintro e w13 ⟨rfl, hb⟩; refine ⟨_, rfl, ?_⟩; replace HO249 := Aside0.mk (Kd.R_below (by (with_reducible repeat (first | apply Kd.R_alloc | apply Kd.R_drewN | apply Kd.R_drew)); exact HO249.out) hb); replace HB := bs_ hb; (try clear hb); (try clear hb2); (try clear hk); (try clear hi)) | ((with_reducible refine gate_callee (f := 33) rfl ?_); refine gsL_ (some 16) Try.func33 #[.slice A0 l0.length c0] ?_; (with_reducible refine (laws_toRelS.calls k _ _ l0 t251 _ ?side1 ?side2 A7.out).mono ?_); (case side1 => exact ck_ (Kd.C_below HR0.out HB.out)); (case side2 => exact HC0.out); rintro e w14 ⟨v252, rfl, ho0, hb⟩; refine ⟨_, rfl, ?_⟩; have HO253 := Aside0.mk (Kd.R_lower (Kd.R_new' ho0 (Kd.R_lt (by (with_reducible repeat (first | apply Kd.R_alloc | apply Kd.R_drewN | apply Kd.R_drew)); exact HO249.out))) (below_size bb_)); replace HO249 := Aside0.mk (Kd.R_elder' (by (with_reducible repeat (first | apply Kd.R_alloc | apply Kd.R_drewN | apply Kd.R_drew)); exact HO249.out) (Kd.R_base ho0) hb); replace HB := bs_ hb; (try clear hb); (try clear hb2); (try clear hk); (try clear hi); (try clear ho0); obtain ⟨Ao15, co15, eo15⟩ := Kd.R_slice HO253.out; subst eo15) | ((with_reducible refine gate_callee (f := 54) rfl ?_); refine gsL_ (some 18) Try.func54 #[.slice Ao15 t251.length co15] ?_; (with_reducible refine (impl_DbOk.calls k _ _ t251 t254 _ ?side1 ?side2 A8.out).mono ?_); (case side1 => exact ck_ (Kd.R_reads' HO253.out).2.2); (case side2 => exact (Kd.R_reads' HO253.out).2.1); rintro e w16 ⟨rfl, hb⟩; refine ⟨_, rfl, ?_⟩; replace HO249 := Aside0.mk (Kd.R_below (by (with_reducible repeat (first | apply Kd.R_alloc | apply Kd.R_drewN | apply Kd.R_drew)); exact HO249.out) hb); replace HO253 := Aside0.mk (Kd.R_below (by (with_reducible repeat (first | apply Kd.R_alloc | apply Kd.R_drewN | apply Kd.R_drew)); exact HO253.out) hb); replace HB := bs_ hb; (try clear hb); (try clear hb2); (try clear hk); (try clear hi)))
   go_ret
   exact ⟨er_, bb_⟩
  ·rw [if_neg c9] at H
   have c9b0 : (t254 != t250) = false := by simpa using c9
   (try (have c9b1 : decide (t254 = t250) = true := by simpa using c9))
   (try (have c9b2 : (t254 == t250) = true := by simpa using c9))
   clear c9
   replace H := Option.bind_eq_some_iff.mp H
   obtain ⟨t255, A170, H⟩ := H
   replace H : ((laws_eqRelS.f k t251 t255).bind fun t258 => (if t258 = true then (some true) else (some false))) = some r := H
   have A17 := Aside0.mk A170
   clear A170
   replace H := Option.bind_eq_some_iff.mp H
   obtain ⟨t258, A180, H⟩ := H
   replace H : (if t258 = true then (some true) else (some false)) = some r := H
   have A18 := Aside0.mk A180
   clear A180
   by_cases c19 : t258 = true
   ·subst c19
    have H1 : (some true) = some r := by rw [if_pos rfl] at H; exact H
    clear H
    have H := H1
    clear H1
    obtain rfl := Option.some.inj H
    go_enter Try.func11, Try.ntmps11
    go_wp2_with (first | ((with_reducible refine gate_callee (f := 30) rfl ?_); refine gsL_ (some 9) Try.func30 #[.slice A0 l0.length c0, .int .i64 1048576] ?_; (with_reducible refine (laws_szRelS.calls k _ _ l0 1048576 t246 _ ?side1 ?side2 A2.out).mono ?_); (case side1 => exact ck_ HR0.out); (case side2 => exact HC0.out); rintro e w20 ⟨rfl, hb⟩; refine ⟨_, rfl, ?_⟩; replace HB := bs_ hb; (try clear hb); (try clear hb2); (try clear hk); (try clear hi)) | ((with_reducible refine gate_callee (f := 33) rfl ?_); refine gsL_ (some 13) Try.func33 #[.slice A0 l0.length c0] ?_; (with_reducible refine (laws_toRelS.calls k _ _ l0 t247 _ ?side1 ?side2 A5.out).mono ?_); (case side1 => exact ck_ (Kd.C_below HR0.out HB.out)); (case side2 => exact HC0.out); rintro e w21 ⟨v248, rfl, ho0, hb⟩; refine ⟨_, rfl, ?_⟩; have HO249 := Aside0.mk (Kd.R_lower ho0 (below_size bb_)); replace HB := bs_ hb; (try clear hb); (try clear hb2); (try clear hk); (try clear hi); (try clear ho0); obtain ⟨Ao22, co22, eo22⟩ := Kd.R_slice HO249.out; subst eo22) | ((with_reducible refine gate_callee (f := 53) rfl ?_); refine gsL_ (some 14) Try.func53 #[.slice Ao22 t247.length co22] ?_; (with_reducible refine (spec_DbOk.calls k _ _ t247 t250 _ ?side1 ?side2 A6.out).mono ?_); (case side1 => exact ck_ (Kd.R_reads' HO249.out).2.2); (case side2 => exact (Kd.R_reads' HO249.out).2.1); rintro e w23 ⟨rfl, hb⟩; refine ⟨_, rfl, ?_⟩; replace HO249 := Aside0.mk (Kd.R_below (by (with_reducible repeat (first | apply Kd.R_alloc | apply Kd.R_drewN | apply Kd.R_drew)); exact HO249.out) hb); replace HB := bs_ hb; (try clear hb); (try clear hb2); (try clear hk); (try clear hi)) | ((with_reducible refine gate_callee (f := 33) rfl ?_); refine gsL_ (some 16) Try.func33 #[.slice A0 l0.length c0] ?_; (with_reducible refine (laws_toRelS.calls k _ _ l0 t251 _ ?side1 ?side2 A7.out).mono ?_); (case side1 => exact ck_ (Kd.C_below HR0.out HB.out)); (case side2 => exact HC0.out); rintro e w24 ⟨v252, rfl, ho0, hb⟩; refine ⟨_, rfl, ?_⟩; have HO253 := Aside0.mk (Kd.R_lower (Kd.R_new' ho0 (Kd.R_lt (by (with_reducible repeat (first | apply Kd.R_alloc | apply Kd.R_drewN | apply Kd.R_drew)); exact HO249.out))) (below_size bb_)); replace HO249 := Aside0.mk (Kd.R_elder' (by (with_reducible repeat (first | apply Kd.R_alloc | apply Kd.R_drewN | apply Kd.R_drew)); exact HO249.out) (Kd.R_base ho0) hb); replace HB := bs_ hb; (try clear hb); (try clear hb2); (try clear hk); (try clear hi); (try clear ho0); obtain ⟨Ao25, co25, eo25⟩ := Kd.R_slice HO253.out; subst eo25) | ((with_reducible refine gate_callee (f := 54) rfl ?_); refine gsL_ (some 18) Try.func54 #[.slice Ao25 t251.length co25] ?_; (with_reducible refine (impl_DbOk.calls k _ _ t251 t254 _ ?side1 ?side2 A8.out).mono ?_); (case side1 => exact ck_ (Kd.R_reads' HO253.out).2.2); (case side2 => exact (Kd.R_reads' HO253.out).2.1); rintro e w26 ⟨rfl, hb⟩; refine ⟨_, rfl, ?_⟩; replace HO249 := Aside0.mk (Kd.R_below (by (with_reducible repeat (first | apply Kd.R_alloc | apply Kd.R_drewN | apply Kd.R_drew)); exact HO249.out) hb); replace HO253 := Aside0.mk (Kd.R_below (by (with_reducible repeat (first | apply Kd.R_alloc | apply Kd.R_drewN | apply Kd.R_drew)); exact HO253.out) hb); replace HB := bs_ hb; (try clear hb); (try clear hb2); (try clear hk); (try clear hi)) | ((with_reducible refine gate_callee (f := 33) rfl ?_); refine gsL_ (some 24) Try.func33 #[.slice A0 l0.length c0] ?_; (with_reducible refine (laws_toRelS.calls k _ _ l0 t255 _ ?side1 ?side2 A17.out).mono ?_); (case side1 => exact ck_ (Kd.C_below HR0.out HB.out)); (case side2 => exact HC0.out); rintro e w27 ⟨v256, rfl, ho0, hb⟩; refine ⟨_, rfl, ?_⟩; have HO257 := Aside0.mk (Kd.R_lower (Kd.R_new' (Kd.R_new' ho0 (Kd.R_lt (by (with_reducible repeat (first | apply Kd.R_alloc | apply Kd.R_drewN | apply Kd.R_drew)); exact HO249.out))) (Kd.R_lt (by (with_reducible repeat (first | apply Kd.R_alloc | apply Kd.R_drewN | apply Kd.R_drew)); exact HO253.out))) (below_size bb_)); replace HO249 := Aside0.mk (Kd.R_elder' (by (with_reducible repeat (first | apply Kd.R_alloc | apply Kd.R_drewN | apply Kd.R_drew)); exact HO249.out) (Kd.R_base ho0) hb); replace HO253 := Aside0.mk (Kd.R_elder' (by (with_reducible repeat (first | apply Kd.R_alloc | apply Kd.R_drewN | apply Kd.R_drew)); exact HO253.out) (Kd.R_base ho0) hb); replace HB := bs_ hb; (try clear hb); (try clear hb2); (try clear hk); (try clear hi); (try clear ho0); obtain ⟨Ao28, co28, eo28⟩ := Kd.R_slice HO257.out; subst eo28) | ((with_reducible refine gate_callee (f := 36) rfl ?_); refine gsL_ (some 25) Try.func36 #[.slice Ao25 t251.length co25, .slice Ao28 t255.length co28] ?_; (with_reducible refine (laws_eqRelS.calls k _ _ t251 _ _ t255 true _ ?side1 ?side2 ?side3 ?side4 A18.out).mono ?_); (case side1 => exact ck_ (Kd.R_reads' HO253.out).2.2); (case side2 => exact (Kd.R_reads' HO253.out).2.1); (case side3 => exact ck_ (Kd.R_reads' HO257.out).2.2); (case side4 => exact (Kd.R_reads' HO257.out).2.1); rintro e w29 ⟨rfl, hb⟩; refine ⟨_, rfl, ?_⟩; replace HO249 := Aside0.mk (Kd.R_below (by (with_reducible repeat (first | apply Kd.R_alloc | apply Kd.R_drewN | apply Kd.R_drew)); exact HO249.out) hb); replace HO253 := Aside0.mk (Kd.R_below (by (with_reducible repeat (first | apply Kd.R_alloc | apply Kd.R_drewN | apply Kd.R_drew)); exact HO253.out) hb); replace HO257 := Aside0.mk (Kd.R_below (by (with_reducible repeat (first | apply Kd.R_alloc | apply Kd.R_drewN | apply Kd.R_drew)); exact HO257.out) hb); replace HB := bs_ hb; (try clear hb); (try clear hb2); (try clear hk); (try clear hi)))
    go_ret
    exact ⟨er_, bb_⟩
   ·replace c19 := Bool.eq_false_iff.mpr c19
    subst c19
    have H1 : (some false) = some r := by rw [if_neg (show ¬ (false = true) by decide)] at H; exact H
    clear H
    have H := H1
    clear H1
    obtain rfl := Option.some.inj H
    go_enter Try.func11, Try.ntmps11
    go_wp2_with (first | ((with_reducible refine gate_callee (f := 30) rfl ?_); refine gsL_ (some 9) Try.func30 #[.slice A0 l0.length c0, .int .i64 1048576] ?_; (with_reducible refine (laws_szRelS.calls k _ _ l0 1048576 t246 _ ?side1 ?side2 A2.out).mono ?_); (case side1 => exact ck_ HR0.out); (case side2 => exact HC0.out); rintro e w30 ⟨rfl, hb⟩; refine ⟨_, rfl, ?_⟩; replace HB := bs_ hb; (try clear hb); (try clear hb2); (try clear hk); (try clear hi)) | ((with_reducible refine gate_callee (f := 33) rfl ?_); refine gsL_ (some 13) Try.func33 #[.slice A0 l0.length c0] ?_; (with_reducible refine (laws_toRelS.calls k _ _ l0 t247 _ ?side1 ?side2 A5.out).mono ?_); (case side1 => exact ck_ (Kd.C_below HR0.out HB.out)); (case side2 => exact HC0.out); rintro e w31 ⟨v248, rfl, ho0, hb⟩; refine ⟨_, rfl, ?_⟩; have HO249 := Aside0.mk (Kd.R_lower ho0 (below_size bb_)); replace HB := bs_ hb; (try clear hb); (try clear hb2); (try clear hk); (try clear hi); (try clear ho0); obtain ⟨Ao32, co32, eo32⟩ := Kd.R_slice HO249.out; subst eo32) | ((with_reducible refine gate_callee (f := 53) rfl ?_); refine gsL_ (some 14) Try.func53 #[.slice Ao32 t247.length co32] ?_; (with_reducible refine (spec_DbOk.calls k _ _ t247 t250 _ ?side1 ?side2 A6.out).mono ?_); (case side1 => exact ck_ (Kd.R_reads' HO249.out).2.2); (case side2 => exact (Kd.R_reads' HO249.out).2.1); rintro e w33 ⟨rfl, hb⟩; refine ⟨_, rfl, ?_⟩; replace HO249 := Aside0.mk (Kd.R_below (by (with_reducible repeat (first | apply Kd.R_alloc | apply Kd.R_drewN | apply Kd.R_drew)); exact HO249.out) hb); replace HB := bs_ hb; (try clear hb); (try clear hb2); (try clear hk); (try clear hi)) | ((with_reducible refine gate_callee (f := 33) rfl ?_); refine gsL_ (some 16) Try.func33 #[.slice A0 l0.length c0] ?_; (with_reducible refine (laws_toRelS.calls k _ _ l0 t251 _ ?side1 ?side2 A7.out).mono ?_); (case side1 => exact ck_ (Kd.C_below HR0.out HB.out)); (case side2 => exact HC0.out); rintro e w34 ⟨v252, rfl, ho0, hb⟩; refine ⟨_, rfl, ?_⟩; have HO253 := Aside0.mk (Kd.R_lower (Kd.R_new' ho0 (Kd.R_lt (by (with_reducible repeat (first | apply Kd.R_alloc | apply Kd.R_drewN | apply Kd.R_drew)); exact HO249.out))) (below_size bb_)); replace HO249 := Aside0.mk (Kd.R_elder' (by (with_reducible repeat (first | apply Kd.R_alloc | apply Kd.R_drewN | apply Kd.R_drew)); exact HO249.out) (Kd.R_base ho0) hb); replace HB := bs_ hb; (try clear hb); (try clear hb2); (try clear hk); (try clear hi); (try clear ho0); obtain ⟨Ao35, co35, eo35⟩ := Kd.R_slice HO253.out; subst eo35) | ((with_reducible refine gate_callee (f := 54) rfl ?_); refine gsL_ (some 18) Try.func54 #[.slice Ao35 t251.length co35] ?_; (with_reducible refine (impl_DbOk.calls k _ _ t251 t254 _ ?side1 ?side2 A8.out).mono ?_); (case side1 => exact ck_ (Kd.R_reads' HO253.out).2.2); (case side2 => exact (Kd.R_reads' HO253.out).2.1); rintro e w36 ⟨rfl, hb⟩; refine ⟨_, rfl, ?_⟩; replace HO249 := Aside0.mk (Kd.R_below (by (with_reducible repeat (first | apply Kd.R_alloc | apply Kd.R_drewN | apply Kd.R_drew)); exact HO249.out) hb); replace HO253 := Aside0.mk (Kd.R_below (by (with_reducible repeat (first | apply Kd.R_alloc | apply Kd.R_drewN | apply Kd.R_drew)); exact HO253.out) hb); replace HB := bs_ hb; (try clear hb); (try clear hb2); (try clear hk); (try clear hi)) | ((with_reducible refine gate_callee (f := 33) rfl ?_); refine gsL_ (some 24) Try.func33 #[.slice A0 l0.length c0] ?_; (with_reducible refine (laws_toRelS.calls k _ _ l0 t255 _ ?side1 ?side2 A17.out).mono ?_); (case side1 => exact ck_ (Kd.C_below HR0.out HB.out)); (case side2 => exact HC0.out); rintro e w37 ⟨v256, rfl, ho0, hb⟩; refine ⟨_, rfl, ?_⟩; have HO257 := Aside0.mk (Kd.R_lower (Kd.R_new' (Kd.R_new' ho0 (Kd.R_lt (by (with_reducible repeat (first | apply Kd.R_alloc | apply Kd.R_drewN | apply Kd.R_drew)); exact HO249.out))) (Kd.R_lt (by (with_reducible repeat (first | apply Kd.R_alloc | apply Kd.R_drewN | apply Kd.R_drew)); exact HO253.out))) (below_size bb_)); replace HO249 := Aside0.mk (Kd.R_elder' (by (with_reducible repeat (first | apply Kd.R_alloc | apply Kd.R_drewN | apply Kd.R_drew)); exact HO249.out) (Kd.R_base ho0) hb); replace HO253 := Aside0.mk (Kd.R_elder' (by (with_reducible repeat (first | apply Kd.R_alloc | apply Kd.R_drewN | apply Kd.R_drew)); exact HO253.out) (Kd.R_base ho0) hb); replace HB := bs_ hb; (try clear hb); (try clear hb2); (try clear hk); (try clear hi); (try clear ho0); obtain ⟨Ao38, co38, eo38⟩ := Kd.R_slice HO257.out; subst eo38) | ((with_reducible refine gate_callee (f := 36) rfl ?_); refine gsL_ (some 25) Try.func36 #[.slice Ao35 t251.length co35, .slice Ao38 t255.length co38] ?_; (with_reducible refine (laws_eqRelS.calls k _ _ t251 _ _ t255 false _ ?side1 ?side2 ?side3 ?side4 A18.out).mono ?_); (case side1 => exact ck_ (Kd.R_reads' HO253.out).2.2); (case side2 => exact (Kd.R_reads' HO253.out).2.1); (case side3 => exact ck_ (Kd.R_reads' HO257.out).2.2); (case side4 => exact (Kd.R_reads' HO257.out).2.1); rintro e w39 ⟨rfl, hb⟩; refine ⟨_, rfl, ?_⟩; replace HO249 := Aside0.mk (Kd.R_below (by (with_reducible repeat (first | apply Kd.R_alloc | apply Kd.R_drewN | apply Kd.R_drew)); exact HO249.out) hb); replace HO253 := Aside0.mk (Kd.R_below (by (with_reducible repeat (first | apply Kd.R_alloc | apply Kd.R_drewN | apply Kd.R_drew)); exact HO253.out) hb); replace HO257 := Aside0.mk (Kd.R_below (by (with_reducible repeat (first | apply Kd.R_alloc | apply Kd.R_drewN | apply Kd.R_drew)); exact HO257.out) hb); replace HB := bs_ hb; (try clear hb); (try clear hb2); (try clear hk); (try clear hi)))
    go_ret
    exact ⟨er_, bb_⟩

end Go.Proofs.Ytmkllhkhiefbnaa.PFnExactDbOk
