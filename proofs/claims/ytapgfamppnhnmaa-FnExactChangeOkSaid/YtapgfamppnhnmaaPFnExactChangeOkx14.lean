-- WRITTEN BY xprint.py, a program of this session over the kit's printer: by nobody's hand
-- PRESSED
import Derived.Test.YtapgfamppnhnmaaPress
import Derived.Lib.BufferMore
import Derived.Test.YtapgfamppnhnmaaPFnExactChangeOkx0
import Derived.Test.YtapgfamppnhnmaaPFnExactChangeOkx11
import Derived.Test.YtapgfamppnhnmaaPFnExactChangeOkx12
import Derived.Test.YtapgfamppnhnmaaPFnExactChangeOkx13
namespace Go.Proofs.Ytapgfamppnhnmaa.PFnExactChangeOk
set_option maxRecDepth 100000
open Go.RowKit Go.Proofs.YtapgfamppnhnmaaW.PrintWords Go.Proofs.YtapgfamppnhnmaaW.PrintLast Go.Proofs.YtapgfamppnhnmaaW.PrintMore
attribute [local go_sem] max2_int min2_int max_two min_two max_three min_three max_four min_four   -- for this text's walks alone
set_option linter.unusedVariables false
set_option linter.unusedSimpArgs false

/-! ### slices.IndexFunc[[]loop.example/g00312/impl.Counted,loop.example/g00312/impl.Counted]: function 137 -/
set_option maxHeartbeats 4000000 in
theorem IndexFunc_T74.calls (f : S74 → Option Bool) (g : Nat) (lb : Array Value) (eg : ∀ args w, (callFunc g args).run Try.prog w = .ok (.enter g args) w) (A : Option Addr) (c : Nat) (xs : List S74) (r : Int) (w : World) (hr : Kd.C k74 w A xs.length xs) (hp : CB Try.prog k74 (fun cs => Value.agg cs.toArray) g lb f xs w) (h : idxO f xs 0 = some r) :
  Calls Try.prog 137 #[.slice A xs.length c, .func (.func g) #[] lb] w fun e w' => e = .returned (.int .i64 r) ∧ Below w.heap.size w w' := by
 have hbig : xs.length ≤ 9223372036854775807 := hr.2.1
 have HR := Aside0.mk hr
 have HP := Aside0.mk hp
 have HX := Aside0.mk h
 clear hr hp h
 go_enter Try.func137, Try.ntmps137
 go_wp2
 go_loopg [5, 8] xs.length (fun gg _ s8 wr => ∃ x : Int, s8 = .int .i64 x ∧ Aside0 (0 ≤ x ∧ x ≤ xs.length ∧ xs.length - x.toNat ≤ gg ∧ idxO f (xs.drop x.toNat) x = some r ∧ Below w.heap.size w wr))
 case atStart => exact ⟨0, rfl, ⟨by omega, by omega, by simp, by simpa using HX.out, Below.refl _ _⟩⟩
 case round =>
  obtain ⟨x, rfl, HI⟩ := hrel
  obtain ⟨x0, x1, hg, hi, BW⟩ := HI.out
  by_cases hlt : x < (xs.length : Int)
  ·have c4 : decide (x < (xs.length : Int)) = true := decide_eq_true hlt
   have c5 : decide (0 ≤ x) = true := decide_eq_true x0
   obtain ⟨ad, cs, rfl, hl, hK, hcell⟩ := Kd.C_get (Kd.C_below HR.out BW) (z74 : S74) x x0 hlt
   obtain ⟨b, hb, hm, ht, hf⟩ := idxO_step (z74 : S74) x0 hlt hi
   generalize xs.getD x.toNat (z74 : S74) = p at hK hb hm
   have hK0 := hK
   obtain ⟨aA0, aC0, rfl, _, _⟩ := k74_open hK
   have hcell1 : ∀ j u, ([(.slice aA0 p.f0.length aC0), (.int .i64 p.f1)] : List Value)[j]? = some u → wr.cell? (ad.add (x.toNat * 2 + j)) = some u := hcell
   have hc0 : wr.cell? (ad.add (x.toNat * 2)) = some (.slice aA0 p.f0.length aC0) := hcell1 0 _ rfl
   have hc1 : wr.cell? ⟨(ad.add (x.toNat * 2)).block, (ad.add (x.toNat * 2)).off + 1, none⟩ = some (.int .i64 p.f1) := by rw [← add_field _ _ 1 (by omega)]; exact hcell1 1 _ rfl
   have hcall : Calls Try.prog g (#[(.agg #[(.slice aA0 p.f0.length aC0), (.int .i64 p.f1)])] ++ lb) wr (fun e w' => e = .returned (.bool b) ∧ Below wr.heap.size wr w') := HP.out wr _ _ b BW hm hK0 hb
   cases b with
   | true =>
    have HJ := Aside0.mk (And.intro (ht rfl) BW)
    clear hcell hcell1 hK hb hm ht hf hi BW HI hg hl hK0
    go_wp2_with (go_at_fn g; refine hcall.mono ?_; rintro e w' ⟨rfl, hb'⟩)
    go_ret
    exact ⟨ret_int_eq HJ.out.1.symm, HJ.out.2.trans (hb'.mono HJ.out.2.size)⟩
   | false =>
    have HJ := Aside0.mk (And.intro hg (And.intro (hf rfl) BW))
    clear hcell hcell1 hK hb hm ht hf hi BW HI hg hl hK0
    go_wp2_with (go_at_fn g; refine hcall.mono ?_; rintro e w' ⟨rfl, hb'⟩)
    go_roundg (xs.length - (x.toNat + 1))
    case measure => have := HJ.out.1; omega
    case rel => exact ⟨x + 1, by go_num, ⟨by omega, by omega, by omega, HJ.out.2.1, HJ.out.2.2.trans (hb'.mono HJ.out.2.2.size)⟩⟩
  ·have c4 : decide (x < (xs.length : Int)) = false := decide_eq_false hlt
   have hr : r = -1 := idxO_end hlt hi
   clear hi HI
   subst hr
   go_wp2
   go_ret
   exact ⟨rfl, BW⟩

/-! ### slices.ContainsFunc[[]loop.example/g00312/impl.Counted,loop.example/g00312/impl.Counted]: function 120 -/
set_option maxHeartbeats 4000000 in
theorem ContainsFunc_T74.calls (f : S74 → Option Bool) (g : Nat) (lb : Array Value) (eg : ∀ args w, (callFunc g args).run Try.prog w = .ok (.enter g args) w) (A : Option Addr) (c : Nat) (xs : List S74) (r : Int) (w : World) (hr : Kd.C k74 w A xs.length xs) (hp : CB Try.prog k74 (fun cs => Value.agg cs.toArray) g lb f xs w) (h : idxO f xs 0 = some r) :
  Calls Try.prog 120 #[.slice A xs.length c, .func (.func g) #[] lb] w fun e w' => e = .returned (.bool (decide (r ≥ 0))) ∧ Below w.heap.size w w' := by
 have hcall := IndexFunc_T74.calls f g lb eg A c xs r w hr hp h
 clear hr hp h
 go_enter Try.func120, Try.ntmps120
 go_wp2_with (go_at_call 137; refine hcall.mono ?_; rintro e w' ⟨rfl, hb'⟩)
 go_ret
 exact ⟨rfl, hb'⟩

-- NOT PRINTED: function 121 (impl_Counted_1)

/-! ### loop.example/g00312/impl.areAll[loop.example/g00312/impl.Counted]: function 98 -/
set_option maxHeartbeats 4000000 in
theorem areAll_T74.not (f : S74 → Option Bool) (g : Nat) (lb : Array Value) (eg : ∀ args w, (callFunc g args).run Try.prog w = .ok (.enter g args) w) (B : Nat) (xs : List S74) (w : World) (hB : B < w.heap.size) (hp : CB Try.prog k74 (fun cs => Value.agg cs.toArray) g lb f xs w) (hc : w.cell? ⟨B, 0, none⟩ = some (.func (.func g) #[] lb)) :
  CB Try.prog k74 (fun cs => Value.agg cs.toArray) 121 #[.pointer (some ⟨B, 0, none⟩)] (fun x => (f x).map not) xs w := by
   intro W x cs b hb hm hK hf
   obtain ⟨t, ht, rfl⟩ := Option.map_eq_some_iff.1 hf
   have hK0 := hK
   have hc' : W.cell? ⟨B, 0, none⟩ = some (.func (.func g) #[] lb) := (hb.cell (p := ⟨B, 0, none⟩) hB).trans hc
   obtain ⟨aA0, aC0, rfl, _, _⟩ := k74_open hK
   have hcall : ∀ W1, Below W.heap.size W W1 → Calls Try.prog g (#[(.agg #[(.slice aA0 x.f0.length aC0), (.int .i64 x.f1)])] ++ lb) W1 (fun e w' => e = .returned (.bool t) ∧ Below W1.heap.size W1 w') := fun W1 h1 => hp W1 x _ t (hb.trans (h1.mono hb.size)) hm (Kd.K_below _ h1 hK0) ht
   have hcd := fun o : Obj => cell_alloc_old o hc'
   have HN := Aside0.mk (show B ≠ W.heap.size from fun e => by have := hb.size; omega)
   clear hp hf hK hK0 hm hb hc ht 
   have hBW := HN.out
   have hBW' := Ne.symm hBW
   show Calls Try.prog 121 #[(.agg #[(.slice aA0 x.f0.length aC0), (.int .i64 x.f1)]), .pointer (some ⟨B, 0, none⟩)] W _
   go_enter Try.func121, Try.ntmps121
   go_wp2_with (go_at_fn g; refine (hcall _ (by first | exact Below.refl _ _ | exact below_alloc (Below.refl _ _) _)).mono ?_; rintro e w' ⟨rfl, hb'⟩)
   go_ret
   exact ⟨rfl, by first | exact hb' | exact (below_alloc (Below.refl _ _) _ : Below W.heap.size W _).trans (hb'.mono (by simp))⟩
set_option maxHeartbeats 4000000 in
theorem areAll_T74.calls (f : S74 → Option Bool) (g : Nat) (lb : Array Value) (eg : ∀ args w, (callFunc g args).run Try.prog w = .ok (.enter g args) w) (A : Option Addr) (c : Nat) (xs : List S74) (r : Bool) (w : World) (hr : Kd.C k74 w A xs.length xs) (hp : CB Try.prog k74 (fun cs => Value.agg cs.toArray) g lb f xs w) (h : allO f xs = some r) :
  Calls Try.prog 98 #[.slice A xs.length c, .func (.func g) #[] lb] w fun e w' => e = .returned (.bool r) ∧ Below w.heap.size w w' := by
 obtain ⟨j, hj, hjr⟩ := idxO_not h 0 (Int.le_refl _)
 have e_l : ∀ args w, (callFunc 121 args).run Try.prog w = .ok (.enter 121 args) w := enters_of Try.func121 (by kernel_rfl) rfl
 have hB0 : Below w.heap.size w (w.alloc (.cells #[.func (.func g) #[] lb] 120)) := below_alloc (Below.refl _ _) _
 have hp1 := CB.later hB0 hp
 have hnot := areAll_T74.not f g lb eg w.heap.size xs _ (by simp) hp1 (by simp)
 have hcall := ContainsFunc_T74.calls _ 121 _ e_l A c xs j _ (Kd.C_below hr hB0) hnot hj
 have HJ := Aside0.mk hjr
 clear hr hp h hjr hj hp1 hnot hB0
 go_enter Try.func98, Try.ntmps98
 go_wp2_with (go_at_call 120; refine hcall.mono ?_; rintro e w' ⟨rfl, hb'⟩)
 go_ret
 exact ⟨ret_bool_eq (by rw [HJ.out]; cases r <;> rfl), (below_alloc (Below.refl _ _) _ : Below w.heap.size w _).trans (hb'.mono (by simp))⟩

/-! ### impl_Plain_1: function 99 -/
def impl_Plain_1.f (l0_0 : List (S25)) (a0_1 : Int) : Option (Bool) := some (decide (a0_1 > 0))
set_option maxHeartbeats 8000000 in
theorem impl_Plain_1.calls (A0_0 : Option Addr) (c0_0 : Nat) (l0_0 : List (S25)) (a0_1 : Int) (r : Bool) (w : World) (hr0_0 : Kd.C k25 w A0_0 l0_0.length l0_0) (hc0_0 : l0_0.length ≤ c0_0) (h : impl_Plain_1.f l0_0 a0_1 = some r) :
  Calls Try.prog 99 #[.agg #[.slice A0_0 l0_0.length c0_0, .int .i64 a0_1]] w fun e w' => e = .returned (.bool r) ∧ Below w.heap.size w w' := by
 have hu74 := Try.underlying74
 have HR0_0 := Aside0.mk hr0_0
 have HC0_0 := Aside0.mk hc0_0
 clear hr0_0 hc0_0
 have HB := Aside0.mk (Below.refl w.heap.size w)
 have H : (some (decide (a0_1 > 0))) = some r := h
 clear h
 obtain rfl := Option.some.inj H
 go_enter Try.func99, Try.ntmps99
 go_wp2_with (first | ((with_reducible refine gate_dst (N := 1) rfl ?_); refine bx_ 1 #[.slice A0_0 l0_0.length c0_0, .int .i64 a0_1] 74 ?_; intro gb282 hg w2 hbox hb; have BK282 := Aside0.mk (hbox); have GW282 := gw_ hg; have GE282 := gw_ hg; replace HB := bs_ hb; clear hb hbox hg; obtain ⟨hcz3_0, hcz3_1, hfz3_0, hfz3_1⟩ := b2_ BK282))
 go_ret
 exact ⟨er_, bb_⟩

/-! ### impl_Plain: function 66 -/
-- by hand
def impl_Plain.f (k : Nat) (a0 : Int) (l0 : List S74) : Option Bool := (impl_BagOk.f k a0 l0).bind fun t => if t = true then allO (fun x => impl_Plain_1.f x.f0 x.f1) l0 else some false
theorem Plain_cb (xs : List S74) (w : World) : CB Try.prog k74 (fun cs => Value.agg cs.toArray) 99 #[] (fun x => impl_Plain_1.f x.f0 x.f1) xs w := by
  intro W x cs b _ _ hK hf
  obtain ⟨A0, c0, rfl, hl0, hg0⟩ := k74_open hK
  refine Calls.mono (show Calls Try.prog 99 #[.agg #[.slice A0 x.f0.length c0, .int .i64 x.f1]] W _ from impl_Plain_1.calls A0 c0 _ _ b W hg0 hl0 hf) ?_
  rintro e w' ⟨rfl, hb⟩
  exact ⟨rfl, hb⟩
set_option maxHeartbeats 2000000 in
theorem impl_Plain.calls (k : Nat) (a0_0 : Int) (A0_1 : Option Addr) (c0_1 : Nat) (l0_1 : List (S74)) (r : Bool) (w : World) (hr0_1 : Kd.C k74 w A0_1 l0_1.length l0_1) (hc0_1 : l0_1.length ≤ c0_1) (h : impl_Plain.f k a0_0 l0_1 = some r) :
    Calls Try.prog 66 #[.agg #[.int .i64 a0_0, .slice A0_1 l0_1.length c0_1]] w fun e w' => e = .returned (.bool r) ∧ Below w.heap.size w w' := by
  obtain ⟨t, ht, h⟩ := Option.bind_eq_some_iff.1 h
  have hu1 := Try.underlying40
  have eg : ∀ args w, (callFunc 99 args).run Try.prog w = .ok (.enter 99 args) w := enters_of Try.func99 (by kernel_rfl) rfl
  have hB1 : Below w.heap.size w (w.alloc (.cells #[.int .i64 a0_0, .slice A0_1 l0_1.length c0_1] 40)) := below_alloc (Below.refl _ _) _
  have hbag := impl_BagOk.calls k a0_0 A0_1 c0_1 l0_1 t _ (Kd.C_below hr0_1 hB1) hc0_1 ht
  have HB1 := Aside0.mk hB1
  cases t with
  | false =>
    obtain rfl : false = r := by simpa using h
    clear h ht hr0_1 hB1
    go_enter Try.func66, Try.ntmps66
    go_wp2_with (go_at_call 47; refine hbag.mono ?_; rintro e w' ⟨rfl, hb'⟩)
    go_ret
    exact ⟨rfl, HB1.out.trans (hb'.mono HB1.out.size)⟩
  | true =>
    rw [if_pos rfl] at h
    have hall := fun W (hb : Below w.heap.size w W) => areAll_T74.calls _ 99 #[] eg A0_1 c0_1 l0_1 r W (Kd.C_below hr0_1 hb) (Plain_cb l0_1 W) h
    clear h ht hr0_1 hB1
    go_enter Try.func66, Try.ntmps66
    go_wp2_with (first
      | (go_at_call 47
         refine hbag.mono ?_
         rintro e w' ⟨rfl, hb'⟩
         have hb0 : w'.cell? ⟨w.heap.size, 1, none⟩ = some (.slice A0_1 l0_1.length c0_1) := (hb'.cell (p := ⟨w.heap.size, 1, none⟩) (by simp <;> omega)).trans ((cell_of_block (heap_alloc_new w _) 1).trans rfl)
         have HF := Aside0.mk (HB1.out.trans (hb'.mono HB1.out.size) : Below w.heap.size w w')
         clear hb')
      | (go_at_call 98
         refine (hall _ HF.out).mono ?_
         rintro e w2 ⟨rfl, hb2⟩))
    go_ret
    exact ⟨rfl, HF.out.trans (hb2.mono HF.out.size)⟩

/-! ### impl_DbOk_1: function 92 -/
def impl_DbOk_1.f (k : Nat) (a0_0 : ByteArray) (a0_1 : Int) (l0_2 : List (S74)) : Option (Bool) := (impl_Plain.f k a0_1 l0_2).bind fun t284 => (some t284)
set_option maxHeartbeats 8000000 in
theorem impl_DbOk_1.calls (k : Nat) (a0_0 : ByteArray) (a0_1 : Int) (A0_2 : Option Addr) (c0_2 : Nat) (l0_2 : List (S74)) (r : Bool) (w : World) (hr0_2 : Kd.C k74 w A0_2 l0_2.length l0_2) (hc0_2 : l0_2.length ≤ c0_2) (h : impl_DbOk_1.f k a0_0 a0_1 l0_2 = some r) :
  Calls Try.prog 92 #[.agg #[.string a0_0, .int .i64 a0_1, .slice A0_2 l0_2.length c0_2]] w fun e w' => e = .returned (.bool r) ∧ Below w.heap.size w w' := by
 have hu91 := Try.underlying91
 have hu40 := Try.underlying40
 have HR0_2 := Aside0.mk hr0_2
 have HC0_2 := Aside0.mk hc0_2
 clear hr0_2 hc0_2
 have HB := Aside0.mk (Below.refl w.heap.size w)
 have H : ((impl_Plain.f k a0_1 l0_2).bind fun t284 => (some t284)) = some r := h
 clear h
 replace H := Option.bind_eq_some_iff.mp H
 obtain ⟨t284, A20, H⟩ := H
 replace H : (some t284) = some r := H
 have A2 := Aside0.mk A20
 clear A20
 obtain rfl := Option.some.inj H
 go_enter Try.func92, Try.ntmps92
 go_wp2_with (first | ((with_reducible refine gate_dst (N := 1) rfl ?_); refine bx_ 1 #[.string a0_0, .int .i64 a0_1, .slice A0_2 l0_2.length c0_2] 91 ?_; intro gb283 hg w3 hbox hb; have BK283 := Aside0.mk (hbox); have GW283 := gw_ hg; have GE283 := gw_ hg; replace HB := bs_ hb; clear hb hbox hg; obtain ⟨hcz4_0, hcz4_1, hcz4_2, hfz4_0, hfz4_1, hfz4_2⟩ := b3_ BK283) | ((with_reducible refine gate_callee (f := 66) rfl ?_); refine gsL_ (some 5) Try.func66 #[.agg #[.int .i64 a0_1, .slice A0_2 l0_2.length c0_2]] ?_; (with_reducible refine (impl_Plain.calls k a0_1 _ _ l0_2 t284 _ ?side1 ?side2 A2.out).mono ?_); (case side1 => exact ck_ (Kd.C_below HR0_2.out HB.out)); (case side2 => exact HC0_2.out); rintro e w5 ⟨rfl, hb⟩; refine ⟨_, rfl, ?_⟩; replace BK283 := bkb_ BK283 hb; replace HB := bs_ hb; (try clear hb); (try clear hb2); (try clear hk); (try clear hi)))
 go_ret
 exact ⟨er_, bb_⟩

/-! ### impl_DbOk: function 60 -/
-- by hand
def impl_DbOk.f (k : Nat) (l0 : List S91) : Option Bool :=
  if (l0.length : Int) ≤ 20 then ((impl_relNames.f k l0).bind fun ns => (impl_isRising.f k ns).bind fun t => if t = true then allO (fun x => impl_DbOk_1.f k x.f0 x.f1.f0 x.f1.f1) l0 else some false) else some false
theorem DbOk_cb (k : Nat) (xs : List S91) (w : World) : CB Try.prog k91 (fun cs => Value.agg cs.toArray) 92 #[] (fun x => impl_DbOk_1.f k x.f0 x.f1.f0 x.f1.f1) xs w := by
  intro W x cs b _ _ hK hf
  obtain ⟨A0, c0, rfl, hl0, hg0⟩ := k91_open hK
  refine Calls.mono (show Calls Try.prog 92 #[.agg #[.string x.f0, .int .i64 x.f1.f0, .slice A0 x.f1.f1.length c0]] W _ from impl_DbOk_1.calls k _ _ A0 c0 _ b W hg0 hl0 hf) ?_
  rintro e w' ⟨rfl, hb⟩
  exact ⟨rfl, hb⟩
set_option maxHeartbeats 2000000 in
theorem impl_DbOk.calls (k : Nat) (A0 : Option Addr) (c0 : Nat) (l0 : List (S91)) (r : Bool) (w : World) (hr0 : Kd.C k91 w A0 l0.length l0) (hc0 : l0.length ≤ c0) (h : impl_DbOk.f k l0 = some r) :
    Calls Try.prog 60 #[.slice A0 l0.length c0] w fun e w' => e = .returned (.bool r) ∧ Below w.heap.size w w' := by
  unfold impl_DbOk.f at h
  by_cases hl : (l0.length : Int) ≤ 20
  · rw [if_pos hl] at h
    have d0 : decide ((l0.length : Int) ≤ 20) = true := decide_eq_true hl
    have d1 : l0.length ≤ 20 := by omega
    obtain ⟨ns, hns, h⟩ := Option.bind_eq_some_iff.1 h
    obtain ⟨t, ht, h⟩ := Option.bind_eq_some_iff.1 h
    have hnames := impl_relNames.calls k A0 c0 l0 ns w hr0 hc0 hns
    have hrise := fun W A c hr hc => impl_isRising.calls k A c ns t W hr hc ht
    have eg : ∀ args w, (callFunc 92 args).run Try.prog w = .ok (.enter 92 args) w := enters_of Try.func92 (by kernel_rfl) rfl
    have hall : ∀ W (hb : Below w.heap.size w W), t = true → Calls Try.prog 63 #[.slice A0 l0.length c0, .func (.func 92) #[] #[]] W fun e w' => e = .returned (.bool r) ∧ Below W.heap.size W w' := fun W hb e => areAll_T91.calls _ 92 #[] eg A0 c0 l0 r W (Kd.C_below hr0 hb) (DbOk_cb k l0 W) (by rw [if_pos e] at h; exact h)
    have hfalse := Aside0.mk (show t = false → r = false from fun e => by rw [if_neg (by simp [e])] at h; exact (Option.some.inj h).symm)
    clear h ht hns hr0
    go_enter Try.func60, Try.ntmps60
    cases t with
    | false =>
      obtain rfl := hfalse.out rfl
      go_wp2_with (first
        | (go_at_call 62
           refine hnames.mono ?_
           rintro e w' ⟨v0, rfl, hR, hb⟩
           obtain ⟨A, c, rfl, hAc, hC⟩ := Kd.R_reads hR
           have HB := Aside0.mk hb
           have HC := Aside0.mk hC
           clear hR hb hnames hC)
        | (go_at_call 61
           refine (hrise _ _ _ HC.out hAc).mono ?_
           rintro e w2 ⟨rfl, hb2⟩
           have HB2 := Aside0.mk (HB.out.trans (hb2.mono HB.out.size))
           clear hb2))
      go_ret
      exact ⟨rfl, HB2.out⟩
    | true =>
      go_wp2_with (first
        | (go_at_call 62
           refine hnames.mono ?_
           rintro e w' ⟨v0, rfl, hR, hb⟩
           obtain ⟨A, c, rfl, hAc, hC⟩ := Kd.R_reads hR
           have HB := Aside0.mk hb
           have HC := Aside0.mk hC
           clear hR hb hnames hC)
        | (go_at_call 61
           refine (hrise _ _ _ HC.out hAc).mono ?_
           rintro e w2 ⟨rfl, hb2⟩
           have HB2 := Aside0.mk (HB.out.trans (hb2.mono HB.out.size))
           clear hb2)
        | (go_at_call 63
           refine (hall _ HB2.out (by trivial)).mono ?_
           rintro e w3 ⟨rfl, hb3⟩))
      go_ret
      exact ⟨rfl, HB2.out.trans (hb3.mono HB2.out.size)⟩
  · rw [if_neg hl] at h
    obtain rfl := Option.some.inj h
    have d0 : decide ((l0.length : Int) ≤ 20) = false := decide_eq_false hl
    have d1 : ¬ l0.length ≤ 20 := by omega
    clear h hl hr0
    go_enter Try.func60, Try.ntmps60
    go_wp2
    go_ret
    exact ⟨rfl, by repeat (first | exact Below.refl _ _ | apply pw_below_drewN)⟩

-- NOT PRINTED: function 97 (impl_findRel_1)

/-! ### impl_findRel: function 65 -/
-- by hand
def impl_findRel.g (a1 : ByteArray) (x : S91) : Option Bool := some (x.f0.toList == a1.toList)
def impl_findRel.f (l0 : List (S91)) (a1 : ByteArray) : Option (ByteArray × Int × List (S74) × Bool) :=
  (idxO (impl_findRel.g a1) l0 0).bind fun i => if i < 0 then some ((⟨#[]⟩ : ByteArray), 0, [], false) else if 0 ≤ i then if i < (l0.length : Int) then some ((rd_T91 l0 i).f0, (rd_T91 l0 i).f1.f0, (rd_T91 l0 i).f1.f1, true) else none else none
set_option maxHeartbeats 2000000 in
theorem findRel_cb (a1 : ByteArray) (B : Nat) (xs : List S91) (w : World) (hB : B < w.heap.size) (hc : w.cell? ⟨B, 0, none⟩ = some (.string a1)) :
    CB Try.prog k91 (fun cs => Value.agg cs.toArray) 97 #[.pointer (some ⟨B, 0, none⟩)] (impl_findRel.g a1) xs w := by
  intro W x cs b hb _ hK hf
  obtain rfl := Option.some.inj hf
  obtain ⟨A2, c2, rfl, hl2, hg2⟩ := k91_open hK
  have hc' : W.cell? ⟨B, 0, none⟩ = some (.string a1) := (hb.cell (p := ⟨B, 0, none⟩) hB).trans hc
  have hBW : B ≠ W.heap.size := by have := hb.size; omega
  have hBW' := Ne.symm hBW
  have hcd := fun o : Obj => cell_alloc_old o hc'
  have hu := Try.underlying91
  clear hK hf hc hb hg2 hl2
  show Calls Try.prog 97 #[.agg #[.string x.f0, .int .i64 x.f1.f0, .slice A2 x.f1.f1.length c2], .pointer (some ⟨B, 0, none⟩)] W _
  go_enter Try.func97, Try.ntmps97
  go_wp2
  go_ret
  exact ⟨rfl, below_alloc (Below.refl _ _) _⟩
set_option maxHeartbeats 4000000 in
theorem impl_findRel.calls (P0_ : Nat → Prop) (A0 : Option Addr) (c0 : Nat) (l0 : List (S91)) (a1 : ByteArray) (r1 : ByteArray) (r2 : Int) (r3 : List (S74)) (r4 : Bool) (w : World) (hs0 : Kd.V k91 91 w w.heap.size (fun k_ => P0_ k_) (.slice A0 l0.length c0) l0) (h : impl_findRel.f l0 a1 = some (r1, r2, r3, r4)) :
    Calls Try.prog 65 #[.slice A0 l0.length c0, .string a1] w fun e w' => ∃ v1_ : Value, e = .returned (.tuple #[.agg #[.string r1, .int .i64 r2, v1_], .bool r4]) ∧ Kd.V k74 74 w' w.heap.size (fun k_ => (P0_ k_ ∨ w.heap.size ≤ k_)) v1_ r3 ∧ Below w.heap.size w w' := by
  obtain ⟨i, hi, h⟩ := Option.bind_eq_some_iff.1 h
  have hu1 := Try.underlying91
  have eg : ∀ args w, (callFunc 97 args).run Try.prog w = .ok (.enter 97 args) w := enters_of Try.func97 (by kernel_rfl) rfl
  have hB1 : Below w.heap.size w (w.alloc (.cells #[.string a1] 9)) := below_alloc (Below.refl _ _) _
  have hB2 : Below w.heap.size w ((w.alloc (.cells #[.string a1] 9)).alloc (.cells #[.string ⟨#[]⟩, .int .i64 0, .slice none 0 0] 91)) := below_alloc hB1 _
  have hcall := IndexFunc_T91.calls (impl_findRel.g a1) 97 #[.pointer (some ⟨w.heap.size, 0, none⟩)] eg A0 c0 l0 i _ (Kd.C_below (Kd.V_reads' hs0).2.2 hB2) (findRel_cb a1 w.heap.size l0 _ (by simp <;> omega) ((cell_alloc_old _ ((cell_of_block (heap_alloc_new w _) 0).trans rfl)))) hi
  have HV := Aside0.mk (show Kd.V k91 91 w w.heap.size (fun k_ => P0_ k_ ∧ k_ < w.heap.size) (.slice A0 l0.length c0) l0 from by obtain ⟨A_, c_, e_, l_, F_⟩ := hs0; exact ⟨A_, c_, e_, l_, Foot.bound F_⟩)
  have HB2 := Aside0.mk hB2
  clear hs0 hi hB1 hB2
  by_cases hi0 : i < 0
  · have hd : decide (i < 0) = true := decide_eq_true hi0
    rw [if_pos hi0] at h
    simp only [Option.some.injEq, Prod.mk.injEq] at h
    obtain ⟨rfl, rfl, rfl, rfl⟩ := h
    go_enter Try.func65, Try.ntmps65
    go_wp2_with (
      go_at_call 96
      refine hcall.mono ?_
      rintro e w' ⟨rfl, hb'⟩
      have HF := Aside0.mk (HB2.out.trans (hb'.mono HB2.out.size))
      have BK := Aside0.mk ((hb'.block (w.heap.size + 1) (by simp)).trans (show _ = some (Obj.cells #[.string ⟨#[]⟩, .int .i64 0, .slice none 0 0] 91 (0, 0)) from by have h_ := heap_alloc_new (w.alloc (.cells #[.string a1] 9)) (.cells #[.string ⟨#[]⟩, .int .i64 0, .slice none 0 0] 91); simpa using h_))
      obtain ⟨hcz_0, hcz_1, hcz_2, hfz_0, hfz_1, hfz_2⟩ := b3_ BK
      clear hb')
    refine bodyPost_ret (results_ct rfl _ _ (w.heap.size + 1) 91 #[.string ⟨#[]⟩, .int .i64 0, .slice none 0 0] (0, 0) _ rfl (bp3_ (bkx_ BK.out)) Try.underlying91 rfl (by kernel_rfl)) rfl ?_
    exact ⟨_, by first | rfl | (simp [errW_none, errW_some] <;> rfl), Kd.V_nil _ _ _ _ _, below_set (below_set (below_set HF.out (by simp)) (by simp)) (by simp)⟩
  · have hd : decide (i < 0) = false := decide_eq_false hi0
    rw [if_neg hi0] at h
    by_cases h0 : 0 ≤ i
    case neg => rw [if_neg h0] at h; cases h
    rw [if_pos h0] at h
    by_cases h1 : i < (l0.length : Int)
    case neg => rw [if_neg h1] at h; cases h
    rw [if_pos h1] at h
    simp only [Option.some.injEq, Prod.mk.injEq] at h
    obtain ⟨rfl, rfl, rfl, rfl⟩ := h
    have d0 : decide (0 ≤ i) = true := decide_eq_true h0
    have d1 : decide (i < (l0.length : Int)) = true := decide_eq_true h1
    go_enter Try.func65, Try.ntmps65
    go_wp2_with (
      go_at_call 96
      refine hcall.mono ?_
      rintro e w' ⟨rfl, hb'⟩
      have HF := Aside0.mk (HB2.out.trans (hb'.mono HB2.out.size))
      have HV2 := Aside0.mk (Kd.V_below HV.out HF.out)
      obtain ⟨ad, AA, cc, rfl, hx0, hx1, hx2, hl2, _⟩ := at_T91 (Kd.V_reads' HV2.out).2.2 i h0 h1
      obtain ⟨ce, hce, hMe, hcc⟩ := Kd.V_get HV2.out z91 i h0 h1
      obtain ⟨ua, uc, rfl, ul, ge⟩ := k91_openF hMe
      have hv := hcc 2 _ rfl
      rw [add_field _ _ 2 (by omega)] at hv
      replace hv := Option.some.inj (hv.symm.trans hx2)
      injection hv with hva_ hvn_ hvc_
      rw [hva_] at ge
      rw [hvc_] at ul
      have HL := Aside0.mk (show Kd.V k74 74 _ w.heap.size _ _ ((rd_T91 l0 i).f1.f1) from Kd.V_mk ul ge)
      have BK := Aside0.mk ((hb'.block (w.heap.size + 1) (by simp)).trans (show _ = some (Obj.cells #[.string ⟨#[]⟩, .int .i64 0, .slice none 0 0] 91 (0, 0)) from by have h_ := heap_alloc_new (w.alloc (.cells #[.string a1] 9)) (.cells #[.string ⟨#[]⟩, .int .i64 0, .slice none 0 0] 91); simpa using h_))
      obtain ⟨hcz_0, hcz_1, hcz_2, hfz_0, hfz_1, hfz_2⟩ := b3_ BK
      clear hb' hva_ hvn_ hvc_ ul ge hcc hMe hce hl2)
    refine bodyPost_ret (results_ct rfl _ _ (w.heap.size + 1) 91 #[.string (rd_T91 l0 i).f0, .int .i64 (rd_T91 l0 i).f1.f0, .slice AA (rd_T91 l0 i).f1.f1.length cc] (0, 0) _ rfl (bp3_ (bkx_ BK.out)) Try.underlying91 rfl (by kernel_rfl)) rfl ?_
    exact ⟨_, by first | rfl | (simp [errW_none, errW_some] <;> rfl), Kd.V_mono (Kd.V_far (p := ⟨w.heap.size + 1, 2, none⟩) (Kd.V_far (p := ⟨w.heap.size + 1, 1, none⟩) (Kd.V_far (p := ⟨w.heap.size + 1, 0, none⟩) HL.out (fun k_ hk => by have := hk.2; show k_ ≠ w.heap.size + 1; omega) _) (fun k_ hk => by have := hk.2; show k_ ≠ w.heap.size + 1; omega) _) (fun k_ hk => by have := hk.2; show k_ ≠ w.heap.size + 1; omega) _) (fun k_ hk => .inl hk.1), below_set (below_set (below_set HF.out (by simp)) (by simp)) (by simp)⟩

/-! ### impl_Counted_77: function 77 -/
def impl_Counted_77.f (l0 : List (S74)) : Option ((List (S74))) := (some (([] : List (S74)) : List (S74))).bind fun y285 => (if y285.length + l0.length < 4398046511104 then (some (y285 ++ l0)) else (none))
set_option maxHeartbeats 8000000 in
theorem impl_Counted_77.calls (P0_ : Nat → Prop) (A0 : Option Addr) (c0 : Nat) (l0 : List (S74)) (r : List (S74)) (w : World) (hs0 : Kd.V k74 74 w w.heap.size (fun k_ => P0_ k_) (.slice A0 l0.length c0) l0) (h : impl_Counted_77.f l0 = some r) :
  Calls Try.prog 77 #[.slice A0 l0.length c0] w fun e w' => ∃ v0_ : Value, e = .returned (v0_) ∧ Kd.N k74 74 w' w.heap.size (fun k_ => (P0_ k_ ∨ w.heap.size ≤ k_)) v0_ r ∧ Below w.heap.size w w' := by
 have HO0 := Aside0.mk (show Kd.V k74 74 w w.heap.size (fun k_ => (P0_ k_ ∨ w.heap.size ≤ k_)) (.slice A0 l0.length c0) l0 from Kd.V_mono hs0 (fun k_ hk => .inl hk))
 have HB := Aside0.mk (Below.refl w.heap.size w)
 have H : ((some (([] : List (S74)) : List (S74))).bind fun y285 => (if y285.length + l0.length < 4398046511104 then (some (y285 ++ l0)) else (none))) = some r := h
 clear h
 obtain ⟨y285, hy285⟩ : ∃ y_ : List (S74), y_ = (([] : List (S74))) := ⟨_, rfl⟩
 replace H : (if y285.length + l0.length < 4398046511104 then (some (y285 ++ l0)) else (none)) = some r := by first | (rw [hy285]; with_reducible exact H) | (have H2_ := (Option.bind_some _ _).symm.trans H; rw [hy285]; with_reducible exact H2_) | (have H2_ := (Option.bind_some _ _).symm.trans H; with_reducible exact H2_) | with_reducible exact H | (rw [hy285]; exact H) | exact H
 have Ny285 := Aside0.mk hy285
 clear hy285
 by_cases c2 : y285.length + l0.length < 4398046511104
 ·rw [if_pos c2] at H
  have LMc2 := Aside0.mk c2
  clear c2
  obtain ⟨y288, hy288⟩ : ∃ y_ : List (S74), y_ = (y285 ++ l0) := ⟨_, rfl⟩
  replace H : (some y288) = some r := by first | (rw [hy288]; with_reducible exact H) | (have H2_ := (Option.bind_some _ _).symm.trans H; rw [hy288]; with_reducible exact H2_) | (have H2_ := (Option.bind_some _ _).symm.trans H; with_reducible exact H2_) | with_reducible exact H | (rw [hy288]; exact H) | exact H
  have Ny288 := Aside0.mk hy288
  clear hy288
  obtain rfl := Option.some.inj H
  cases A0 with
  | none =>
   have hl_ : l0 = [] := by
    have h_ := (Kd.V_reads' HO0.out).2.2
    cases l0 with
    | nil => rfl
    | cons a_ b_ => obtain ⟨ad_, he_, _⟩ := h_.2.2 (by simp); cases he_
   subst hl_
   have eqn_ : ∀ W c_, (binOp .eql 38 (.slice none 0 c_) (.slice none 0 0)).run Try.prog W = .ok (.bool true) W := fun W c_ => Lib.run_eql_slice_nil_nil W _ _ Try.underlying38
   go_enter Try.func77, Try.ntmps77
   go_wp2
   go_ret
   refine ⟨.slice none 0 0, by first | rfl | (simp [errW_none, errW_some] <;> rfl), ?_, by repeat (first | (with_reducible first | exact HB.out | apply below_alloc | apply pw_below_drewN | apply below_drew1) | exact HB.out)⟩
   rw [Ny288.out, Ny285.out]
   exact Kd.N_nil _ _ _ _ _
  | some ad0_ =>
   have eqn_ : ∀ W n_ c_, (binOp .eql 38 (.slice (some ad0_) n_ c_) (.slice none 0 0)).run Try.prog W = .ok (.bool false) W := fun W n_ c_ => Lib.run_eql_slice_some_nil W _ _ _ Try.underlying38
   go_enter Try.func77, Try.ntmps77
   go_wp2_with (first | ((with_reducible refine gate_dst (N := 5) rfl ?_); refine Kd.N_lit k74 _ 74 ?hg (N' := 5) ?hd (xs := ([] : List (S74))) (inner := []) (ok := (fun k_ => (P0_ k_ ∨ w.heap.size ≤ k_))) (okp := (fun k_ => (P0_ k_ ∨ w.heap.size ≤ k_))) ?hr ?hp (fun _ hk => hk) ((show ∀ k_, w.heap.size ≤ k_ → (fun k_ => (P0_ k_ ∨ w.heap.size ≤ k_)) k_ from fun k_ hk => (.inr (Nat.le_trans (below_size bb_) hk))) _ (Nat.le_refl _)) (Below.refl _ _) (Nat.le_refl _) (by simp) ?_; (case hd => rfl); (case hg => rfl); (case hr => first | (go_simp; done) | (go_simp; rfl)); (case hp => exact (Reps.none _ _)); intro v286 w3 ho4 hb hg_ hnew_; clear hg_ hnew_; (first | rw [← Ny285.out] at ho4 | (simp only [Int.reduceToNat] at ho4; rw [← Ny285.out] at ho4)); have HO287 := Aside0.mk (Kd.N_lower ho4 (below_size bb_)); replace HO0 := Aside0.mk (Kd.V_elder' (by (with_reducible repeat (first | apply Kd.V_alloc | apply Kd.V_drewN | apply Kd.V_drew)); exact HO0.out) (Kd.N_base ho4) hb); replace HB := bs_ hb; clear hb ho4) | ((with_reducible refine gate_builtin (b := .append) (xs := #[.tmp 5, .tmp 6]) rfl ?_); at_builtin; refine Kd.N_append_rows k74 (w0 := w) w.heap.size rfl (.tmp 5) (.tmp 6) 38 74 (.agg #[(.slice none 0 0), (.int .i64 0)]) 32 rfl Try.underlying38 info74 rfl (by decide) (by omega) v286 y285 l0 _ _ _ (fun k_ => (P0_ k_ ∨ w.heap.size ≤ k_)) (fun k_ => ((fun k_ => (P0_ k_ ∨ w.heap.size ≤ k_))) k_ ∧ some k_ ≠ (v286 : Value).ownBlock) rfl rfl ?aO ?aR (fun _ hk => hk) ?aF ?aB ?aS ?aL ?_; (case aR => exact (by skip; exact Kd.V_F (Kd.V_mono (ok' := (fun k_ => ((fun k_ => (P0_ k_ ∨ w.heap.size ≤ k_))) k_ ∧ some k_ ≠ (v286 : Value).ownBlock)) (HO0.out) (fun k_ hk => ⟨hk.1, hk.2⟩)))); (case aB => exact bb_); (case aF => exact (fun k_ hk => (.inr (Nat.le_trans (below_size bb_) hk)))); (case aO => exact (by (with_reducible repeat (first | apply Kd.N_alloc | apply Kd.N_drewN | apply Kd.N_drew)); exact HO287.out)); (case aS => exact (below_size bb_)); (case aL => have := LMc2.out; omega); intro v289 w5 ho hb hg hat; rw [← Ny288.out] at ho; have HO290 := Aside0.mk (ho); replace HO0 := Aside0.mk (Kd.V_afterv (ok := (fun k_ => (P0_ k_ ∨ w.heap.size ≤ k_))) (by (with_reducible repeat (first | apply Kd.V_alloc | apply Kd.V_drewN | apply Kd.V_drew)); exact HO0.out) hg hat); replace HB := Aside0.mk (hb); clear HO287; clear ho hb hg hat))
   go_ret
   exact ⟨_, by first | rfl | (simp [errW_none, errW_some] <;> rfl) | (simp [*, errW_none, errW_some] <;> rfl), by (with_reducible repeat (first | apply Kd.N_alloc | apply Kd.N_drewN | apply Kd.N_drew)); exact HO290.out, by repeat (first | (with_reducible first | exact HB.out | apply below_alloc | apply pw_below_drewN | apply below_drew1) | exact HB.out)⟩
 ·rw [if_neg c2] at H
  exact absurd H (by simp)

-- NOT PRINTED: function 126 (impl_Counted_126)

-- NOT PRINTED: function 145 (impl_Counted_145)

-- NOT PRINTED: function 140 (impl_Counted_140)

-- NOT PRINTED: function 127 (impl_Counted_127)

-- NOT PRINTED: function 110 (impl_Counted_110)

-- NOT PRINTED: function 78 (impl_Counted_78)

/-! ### impl_gathered_1: function 79 -/
def impl_gathered_1.f (k : Nat) (l0_0 : List (S25)) (a0_1 : Int) (l1_0 : List (S25)) (a1_1 : Int) : Option (Int) := (impl_CompareRow.f k l0_0 l1_0).bind fun t293 => (some t293)
set_option maxHeartbeats 8000000 in
theorem impl_gathered_1.calls (k : Nat) (A0_0 : Option Addr) (c0_0 : Nat) (l0_0 : List (S25)) (a0_1 : Int) (A1_0 : Option Addr) (c1_0 : Nat) (l1_0 : List (S25)) (a1_1 : Int) (r : Int) (w : World) (hr0_0 : Kd.C k25 w A0_0 l0_0.length l0_0) (hc0_0 : l0_0.length ≤ c0_0) (hr1_0 : Kd.C k25 w A1_0 l1_0.length l1_0) (hc1_0 : l1_0.length ≤ c1_0) (h : impl_gathered_1.f k l0_0 a0_1 l1_0 a1_1 = some r) :
  Calls Try.prog 79 #[.agg #[.slice A0_0 l0_0.length c0_0, .int .i64 a0_1], .agg #[.slice A1_0 l1_0.length c1_0, .int .i64 a1_1]] w fun e w' => e = .returned (.int .i64 r) ∧ Below w.heap.size w w' := by
 have hu74 := Try.underlying74
 have HR0_0 := Aside0.mk hr0_0
 have HC0_0 := Aside0.mk hc0_0
 clear hr0_0 hc0_0
 have HR1_0 := Aside0.mk hr1_0
 have HC1_0 := Aside0.mk hc1_0
 clear hr1_0 hc1_0
 have HB := Aside0.mk (Below.refl w.heap.size w)
 have H : ((impl_CompareRow.f k l0_0 l1_0).bind fun t293 => (some t293)) = some r := h
 clear h
 replace H := Option.bind_eq_some_iff.mp H
 obtain ⟨t293, A30, H⟩ := H
 replace H : (some t293) = some r := H
 have A3 := Aside0.mk A30
 clear A30
 obtain rfl := Option.some.inj H
 go_enter Try.func79, Try.ntmps79
 go_wp2_with (first | ((with_reducible refine gate_dst (N := 2) rfl ?_); refine bx_ 2 #[.slice A0_0 l0_0.length c0_0, .int .i64 a0_1] 74 ?_; intro gb291 hg w4 hbox hb; have BK291 := Aside0.mk (hbox); have GW291 := gw_ hg; have GE291 := gw_ hg; replace HB := bs_ hb; clear hb hbox hg) | ((with_reducible refine gate_dst (N := 3) rfl ?_); refine bx_ 3 #[.slice A1_0 l1_0.length c1_0, .int .i64 a1_1] 74 ?_; intro gb292 hg w5 hbox hb; have BK292 := Aside0.mk (hbox); have GW292 := gw_ hg; have GE292 := gw_ hg; have NB291_292 := nl_ hg BK291; have NB292_291 := ng_ hg BK291; replace BK291 := bkb_ BK291 hb; replace HB := bs_ hb; clear hb hbox hg; have hnb6 := NB291_292.out; have hnc6 := NB292_291.out; obtain ⟨hcz7_0, hcz7_1, hfz7_0, hfz7_1⟩ := b2_ BK291; obtain ⟨hcz8_0, hcz8_1, hfz8_0, hfz8_1⟩ := b2_ BK292) | ((with_reducible refine gate_callee (f := 80) rfl ?_); refine gsL_ (some 9) Try.func80 #[.slice A0_0 l0_0.length c0_0, .slice A1_0 l1_0.length c1_0] ?_; (with_reducible refine (impl_CompareRow.calls k _ _ l0_0 _ _ l1_0 t293 _ ?side1 ?side2 ?side3 ?side4 A3.out).mono ?_); (case side1 => exact ck_ (Kd.C_below HR0_0.out HB.out)); (case side2 => exact HC0_0.out); (case side3 => exact ck_ (Kd.C_below HR1_0.out HB.out)); (case side4 => exact HC1_0.out); rintro e w9 ⟨rfl, hb⟩; refine ⟨_, rfl, ?_⟩; replace BK291 := bkb_ BK291 hb; replace BK292 := bkb_ BK292 hb; replace HB := bs_ hb; (try clear hb); (try clear hb2); (try clear hk); (try clear hi)))
 go_ret
 exact ⟨er_, bb_⟩

/-! ### impl_Value_81: function 81 -/
def impl_Value_81.f (l0 : List (S25)) : Option ((List (S25))) := (some (([] : List (S25)) : List (S25))).bind fun y294 => (if y294.length + l0.length < 4398046511104 then (some (y294 ++ l0)) else (none))
set_option maxHeartbeats 8000000 in
theorem impl_Value_81.calls (A0 : Option Addr) (c0 : Nat) (l0 : List (S25)) (r : List (S25)) (w : World) (hr0 : Kd.C k25 w A0 l0.length l0) (hc0 : l0.length ≤ c0) (h : impl_Value_81.f l0 = some r) :
  Calls Try.prog 81 #[.slice A0 l0.length c0] w fun e w' => ∃ v0_ : Value, e = .returned (v0_) ∧ Kd.R k25 25 w' w.heap.size (fun _ => True) v0_ r ∧ Below w.heap.size w w' := by
 have HR0 := Aside0.mk hr0
 have HC0 := Aside0.mk hc0
 clear hr0 hc0
 have HB := Aside0.mk (Below.refl w.heap.size w)
 have H : ((some (([] : List (S25)) : List (S25))).bind fun y294 => (if y294.length + l0.length < 4398046511104 then (some (y294 ++ l0)) else (none))) = some r := h
 clear h
 obtain ⟨y294, hy294⟩ : ∃ y_ : List (S25), y_ = (([] : List (S25))) := ⟨_, rfl⟩
 replace H : (if y294.length + l0.length < 4398046511104 then (some (y294 ++ l0)) else (none)) = some r := by first | (rw [hy294]; with_reducible exact H) | (have H2_ := (Option.bind_some _ _).symm.trans H; rw [hy294]; with_reducible exact H2_) | (have H2_ := (Option.bind_some _ _).symm.trans H; with_reducible exact H2_) | with_reducible exact H | (rw [hy294]; exact H) | exact H
 have Ny294 := Aside0.mk hy294
 clear hy294
 by_cases c2 : y294.length + l0.length < 4398046511104
 ·rw [if_pos c2] at H
  have LMc2 := Aside0.mk c2
  clear c2
  obtain ⟨y297, hy297⟩ : ∃ y_ : List (S25), y_ = (y294 ++ l0) := ⟨_, rfl⟩
  replace H : (some y297) = some r := by first | (rw [hy297]; with_reducible exact H) | (have H2_ := (Option.bind_some _ _).symm.trans H; rw [hy297]; with_reducible exact H2_) | (have H2_ := (Option.bind_some _ _).symm.trans H; with_reducible exact H2_) | with_reducible exact H | (rw [hy297]; exact H) | exact H
  have Ny297 := Aside0.mk hy297
  clear hy297
  obtain rfl := Option.some.inj H
  cases A0 with
  | none =>
   have hl_ : l0 = [] := by
    have h_ := HR0.out
    cases l0 with
    | nil => rfl
    | cons a_ b_ => obtain ⟨ad_, he_, _⟩ := h_.2.2 (by simp); cases he_
   subst hl_
   have eqn_ : ∀ W c_, (binOp .eql 70 (.slice none 0 c_) (.slice none 0 0)).run Try.prog W = .ok (.bool true) W := fun W c_ => Lib.run_eql_slice_nil_nil W _ _ Try.underlying70
   go_enter Try.func81, Try.ntmps81
   go_wp2
   go_ret
   refine ⟨.slice none 0 0, by first | rfl | (simp [errW_none, errW_some] <;> rfl), ?_, by repeat (first | (with_reducible first | exact HB.out | apply below_alloc | apply pw_below_drewN | apply below_drew1) | exact HB.out)⟩
   rw [Ny297.out, Ny294.out]
   exact Kd.R_nil _ _ _ _ _
  | some ad0_ =>
   have eqn_ : ∀ W n_ c_, (binOp .eql 70 (.slice (some ad0_) n_ c_) (.slice none 0 0)).run Try.prog W = .ok (.bool false) W := fun W n_ c_ => Lib.run_eql_slice_some_nil W _ _ _ Try.underlying70
   go_enter Try.func81, Try.ntmps81
   go_wp2_with (first | ((with_reducible refine gate_dst (N := 5) rfl ?_); refine Kd.R_lit k25 _ 25 ?hg (N := 5) ?hd (xs := ([] : List (S25))) (inner := []) (ok := fun _ => True) (okp := fun _ => True) ?hr ?hp (fun _ hk => hk) trivial (Below.refl _ _) (Nat.le_refl _) (by simp) ?_; (case hd => rfl); (case hg => rfl); (case hr => first | (go_simp; done) | (go_simp; rfl)); (case hp => exact (Reps.none _ _)); intro v295 w3 ho4 hb hg_ hnew_; clear hg_ hnew_; (first | rw [← Ny294.out] at ho4 | (simp only [Int.reduceToNat] at ho4; rw [← Ny294.out] at ho4)); have HO296 := Aside0.mk (Kd.R_lower ho4 (below_size bb_)); replace HB := bs_ hb; clear hb ho4) | ((with_reducible refine gate_builtin (b := .append) (xs := #[.tmp 5, .tmp 6]) rfl ?_); at_builtin; refine Kd.R_append_rows k25 (w0 := w) w.heap.size rfl (.tmp 5) (.tmp 6) 70 25 (.agg #[(.int .i64 0), (.int .i64 0), (.string ⟨#[]⟩)]) 32 rfl Try.underlying70 info25 rfl (by decide) (by omega) v295 y294 l0 _ _ _ (fun _ => True) (fun _ => False) rfl rfl ?aO ?aR (fun _ _ h => h) (fun _ h => h.elim) ?aF ?aB ?aS ?aL ?_; (case aR => repeat (first | exact (Kd.C_below HR0.out HB.out) | (with_reducible refine Kd.C_alloc ?_ _) | (with_reducible refine Kd.C_drewN ?_ _) | (with_reducible refine Kd.C_drew ?_))); (case aB => exact bb_); (case aF => exact (fun _ _ => trivial)); (case aO => exact (rk_ HO296.out)); (case aS => exact (below_size bb_)); (case aL => have := LMc2.out; omega); intro v298 w5 ho hb hg hat; rw [← Ny297.out] at ho; have HO299 := Aside0.mk (ho); replace HB := Aside0.mk (hb); clear HO296; clear ho hb hg hat))
   go_ret
   exact ⟨_, by first | rfl | (simp [errW_none, errW_some] <;> rfl) | (simp [*, errW_none, errW_some] <;> rfl), by (with_reducible repeat (first | apply Kd.R_alloc | apply Kd.R_drewN | apply Kd.R_drew)); exact HO299.out, by repeat (first | (with_reducible first | exact HB.out | apply below_alloc | apply pw_below_drewN | apply below_drew1) | exact HB.out)⟩
 ·rw [if_neg c2] at H
  exact absurd H (by simp)

end Go.Proofs.Ytapgfamppnhnmaa.PFnExactChangeOk
