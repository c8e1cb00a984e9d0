-- WRITTEN BY xprint.py, a program of this session over the kit's printer: by nobody's hand
-- PRESSED
import Derived.Test.YtapgfamppnhnmaaPress
import Derived.Test.YtapgfamppnhnmaaPFnExactBagOfx0
namespace Go.Proofs.Ytapgfamppnhnmaa.PFnExactBagOf
set_option maxRecDepth 100000
open Go.RowKit Go.Proofs.YtapgfamppnhnmaaW.PrintWords Go.Proofs.YtapgfamppnhnmaaW.PrintLast Go.Proofs.YtapgfamppnhnmaaW.PrintMore
attribute [local go_sem] max2_int min2_int max_two min_two max_three min_three max_four min_four   -- for this text's walks alone
set_option linter.unusedVariables false
set_option linter.unusedSimpArgs false

/-! ### impl_within: function 82 -/
def impl_within.f (a0 : Int) (a1 : Int) (a2 : Int) : Option (Bool) := if a1 ≤ a0 then (some (decide (a0 ≤ a2))) else (some false)
set_option maxHeartbeats 8000000 in
theorem impl_within.calls (a0 : Int) (a1 : Int) (a2 : Int) (r : Bool) (w : World) (h : impl_within.f a0 a1 a2 = some r) :
  Calls Try.prog 82 #[.int .i64 a0, .int .i64 a1, .int .i64 a2] w fun e w' => e = .returned (.bool r) ∧ Drawn0 w w' := by
 have H : (if a1 ≤ a0 then (some (decide (a0 ≤ a2))) else (some false)) = some r := h
 clear h
 by_cases c4 : a1 ≤ a0
 ·rw [if_pos c4] at H
  have c4b0 : decide (a1 ≤ a0) = true := decide_eq_true c4
  clear c4
  obtain rfl := Option.some.inj H
  go_enter Try.func82, Try.ntmps82
  go_wp2
  go_ret
  exact ⟨by first | rfl | (simp; done) | (simp [*]; done), by repeat (first | exact Drawn0.refl _ | apply Drawn0.step)⟩
 ·rw [if_neg c4] at H
  have c4b0 : decide (a1 ≤ a0) = false := decide_eq_false c4
  clear c4
  obtain rfl := Option.some.inj H
  go_enter Try.func82, Try.ntmps82
  go_wp2
  go_ret
  exact ⟨by first | rfl | (simp; done) | (simp [*]; done), by repeat (first | exact Drawn0.refl _ | apply Drawn0.step)⟩

/-! ### impl_ValueOk: function 105 -/
def impl_ValueOk.f (a0_0 : Int) (a0_1 : Int) (a0_2 : ByteArray) : Option (Bool) := if a0_0 = 0 then (if a0_1 = 0 then (some (a0_2.toList == ([] : List UInt8))) else (some false)) else (if a0_0 = 1 then (some (a0_2.toList == ([] : List UInt8))) else (if a0_0 = 2 then ((impl_within.f a0_1 0 1).bind fun t206 => (if t206 = true then (some (a0_2.toList == ([] : List UInt8))) else (some false))) else (if a0_0 = 3 then (if a0_1 = 0 then (some (decide ((a0_2.size : Int) ≤ 100))) else (some false)) else (some false))))
set_option maxHeartbeats 8000000 in
theorem impl_ValueOk.calls (a0_0 : Int) (a0_1 : Int) (a0_2 : ByteArray) (r : Bool) (w : World) (h : impl_ValueOk.f a0_0 a0_1 a0_2 = some r) :
  Calls Try.prog 105 #[.agg #[.int .i64 a0_0, .int .i64 a0_1, .string a0_2]] w fun e w' => e = .returned (.bool r) ∧ Below w.heap.size w w' := by
 have hu25 := Try.underlying25
 have HB := Aside0.mk (Below.refl w.heap.size w)
 have H : (if a0_0 = 0 then (if a0_1 = 0 then (some (a0_2.toList == ([] : List UInt8))) else (some false)) else (if a0_0 = 1 then (some (a0_2.toList == ([] : List UInt8))) else (if a0_0 = 2 then ((impl_within.f a0_1 0 1).bind fun t206 => (if t206 = true then (some (a0_2.toList == ([] : List UInt8))) else (some false))) else (if a0_0 = 3 then (if a0_1 = 0 then (some (decide ((a0_2.size : Int) ≤ 100))) else (some false)) else (some false))))) = some r := h
 clear h
 by_cases c2 : a0_0 = 0
 ·rw [if_pos c2] at H
  have c2b0 : (a0_0 == 0) = true := beq_iff_eq.mpr c2
  have c2b1 : (a0_0 != 0) = false := bne_eq_false_iff_eq.mpr c2
  clear c2
  by_cases c3 : a0_1 = 0
  ·rw [if_pos c3] at H
   have c3b0 : (a0_1 == 0) = true := beq_iff_eq.mpr c3
   have c3b1 : (a0_1 != 0) = false := bne_eq_false_iff_eq.mpr c3
   clear c3
   obtain rfl := Option.some.inj H
   go_enter Try.func105, Try.ntmps105
   go_wp2_with (first | ((with_reducible refine gate_dst (N := 1) rfl ?_); (try (refine gate_guard (by rfl) ?_; dsimp only)); refine bx_ 1 #[.int .i64 a0_0, .int .i64 a0_1, .string a0_2] 25 ?_; intro gb205 hg w4 hbox hb; have BK205 := Aside0.mk (hbox); have GW205 := gw_ hg; have GE205 := gw_ hg; replace HB := bs_ hb; clear hb hbox hg; obtain ⟨hcz5_0, hcz5_1, hcz5_2, hfz5_0, hfz5_1, hfz5_2⟩ := b3_ BK205))
   go_ret
   exact ⟨er_, bb_⟩
  ·rw [if_neg c3] at H
   have c3b0 : (a0_1 == 0) = false := beq_eq_false_iff_ne.mpr c3
   have c3b1 : (a0_1 != 0) = true := bne_iff_ne.mpr c3
   obtain rfl := Option.some.inj H
   go_enter Try.func105, Try.ntmps105
   go_wp2_with (first | ((with_reducible refine gate_dst (N := 1) rfl ?_); (try (refine gate_guard (by rfl) ?_; dsimp only)); refine bx_ 1 #[.int .i64 a0_0, .int .i64 a0_1, .string a0_2] 25 ?_; intro gb205 hg w6 hbox hb; have BK205 := Aside0.mk (hbox); have GW205 := gw_ hg; have GE205 := gw_ hg; replace HB := bs_ hb; clear hb hbox hg; obtain ⟨hcz7_0, hcz7_1, hcz7_2, hfz7_0, hfz7_1, hfz7_2⟩ := b3_ BK205))
   go_ret
   exact ⟨er_, bb_⟩
 ·rw [if_neg c2] at H
  have c2b0 : (a0_0 == 0) = false := beq_eq_false_iff_ne.mpr c2
  have c2b1 : (a0_0 != 0) = true := bne_iff_ne.mpr c2
  by_cases c8 : a0_0 = 1
  ·rw [if_pos c8] at H
   have c8b0 : (a0_0 == 1) = true := beq_iff_eq.mpr c8
   have c8b1 : (a0_0 != 1) = false := bne_eq_false_iff_eq.mpr c8
   clear c8
   obtain rfl := Option.some.inj H
   go_enter Try.func105, Try.ntmps105
   go_wp2_with (first | ((with_reducible refine gate_dst (N := 1) rfl ?_); (try (refine gate_guard (by rfl) ?_; dsimp only)); refine bx_ 1 #[.int .i64 a0_0, .int .i64 a0_1, .string a0_2] 25 ?_; intro gb205 hg w9 hbox hb; have BK205 := Aside0.mk (hbox); have GW205 := gw_ hg; have GE205 := gw_ hg; replace HB := bs_ hb; clear hb hbox hg; obtain ⟨hcz10_0, hcz10_1, hcz10_2, hfz10_0, hfz10_1, hfz10_2⟩ := b3_ BK205))
   go_ret
   exact ⟨er_, bb_⟩
  ·rw [if_neg c8] at H
   have c8b0 : (a0_0 == 1) = false := beq_eq_false_iff_ne.mpr c8
   have c8b1 : (a0_0 != 1) = true := bne_iff_ne.mpr c8
   by_cases c11 : a0_0 = 2
   ·rw [if_pos c11] at H
    have c11b0 : (a0_0 == 2) = true := beq_iff_eq.mpr c11
    have c11b1 : (a0_0 != 2) = false := bne_eq_false_iff_eq.mpr c11
    clear c11
    replace H := Option.bind_eq_some_iff.mp H
    obtain ⟨t206, A120, H⟩ := H
    replace H : (if t206 = true then (some (a0_2.toList == ([] : List UInt8))) else (some false)) = some r := H
    have A12 := Aside0.mk A120
    clear A120
    by_cases c13 : t206 = true
    ·subst c13
     have H1 : (some (a0_2.toList == ([] : List UInt8))) = some r := by rw [if_pos rfl] at H; exact H
     clear H
     have H := H1
     clear H1
     obtain rfl := Option.some.inj H
     go_enter Try.func105, Try.ntmps105
     go_wp2_with (first | ((with_reducible refine gate_dst (N := 1) rfl ?_); (try (refine gate_guard (by rfl) ?_; dsimp only)); refine bx_ 1 #[.int .i64 a0_0, .int .i64 a0_1, .string a0_2] 25 ?_; intro gb205 hg w14 hbox hb; have BK205 := Aside0.mk (hbox); have GW205 := gw_ hg; have GE205 := gw_ hg; replace HB := bs_ hb; clear hb hbox hg; obtain ⟨hcz15_0, hcz15_1, hcz15_2, hfz15_0, hfz15_1, hfz15_2⟩ := b3_ BK205) | ((with_reducible refine gate_callee (f := 82) rfl ?_); refine gsL_ (some 24) Try.func82 #[.int .i64 a0_1, .int .i64 0, .int .i64 1] ?_; (with_reducible refine (impl_within.calls a0_1 0 1 true _ A12.out).mono ?_); rintro e w' ⟨rfl, ⟨nd, rfl⟩⟩; refine ⟨_, rfl, ?_⟩))
     go_ret
     exact ⟨er_, bb_⟩
    ·replace c13 := Bool.eq_false_iff.mpr c13
     subst c13
     have H1 : (some false) = some r := by rw [if_neg (show ¬ (false = true) by decide)] at H; exact H
     clear H
     have H := H1
     clear H1
     obtain rfl := Option.some.inj H
     go_enter Try.func105, Try.ntmps105
     go_wp2_with (first | ((with_reducible refine gate_dst (N := 1) rfl ?_); (try (refine gate_guard (by rfl) ?_; dsimp only)); refine bx_ 1 #[.int .i64 a0_0, .int .i64 a0_1, .string a0_2] 25 ?_; intro gb205 hg w16 hbox hb; have BK205 := Aside0.mk (hbox); have GW205 := gw_ hg; have GE205 := gw_ hg; replace HB := bs_ hb; clear hb hbox hg; obtain ⟨hcz17_0, hcz17_1, hcz17_2, hfz17_0, hfz17_1, hfz17_2⟩ := b3_ BK205) | ((with_reducible refine gate_callee (f := 82) rfl ?_); refine gsL_ (some 24) Try.func82 #[.int .i64 a0_1, .int .i64 0, .int .i64 1] ?_; (with_reducible refine (impl_within.calls a0_1 0 1 false _ A12.out).mono ?_); rintro e w' ⟨rfl, ⟨nd, rfl⟩⟩; refine ⟨_, rfl, ?_⟩))
     go_ret
     exact ⟨er_, bb_⟩
   ·rw [if_neg c11] at H
    have c11b0 : (a0_0 == 2) = false := beq_eq_false_iff_ne.mpr c11
    have c11b1 : (a0_0 != 2) = true := bne_iff_ne.mpr c11
    by_cases c18 : a0_0 = 3
    ·rw [if_pos c18] at H
     have c18b0 : (a0_0 == 3) = true := beq_iff_eq.mpr c18
     have c18b1 : (a0_0 != 3) = false := bne_eq_false_iff_eq.mpr c18
     clear c18
     by_cases c19 : a0_1 = 0
     ·rw [if_pos c19] at H
      have c19b0 : (a0_1 == 0) = true := beq_iff_eq.mpr c19
      have c19b1 : (a0_1 != 0) = false := bne_eq_false_iff_eq.mpr c19
      clear c19
      obtain rfl := Option.some.inj H
      go_enter Try.func105, Try.ntmps105
      go_wp2_with (first | ((with_reducible refine gate_dst (N := 1) rfl ?_); (try (refine gate_guard (by rfl) ?_; dsimp only)); refine bx_ 1 #[.int .i64 a0_0, .int .i64 a0_1, .string a0_2] 25 ?_; intro gb205 hg w20 hbox hb; have BK205 := Aside0.mk (hbox); have GW205 := gw_ hg; have GE205 := gw_ hg; replace HB := bs_ hb; clear hb hbox hg; obtain ⟨hcz21_0, hcz21_1, hcz21_2, hfz21_0, hfz21_1, hfz21_2⟩ := b3_ BK205))
      go_ret
      exact ⟨er_, bb_⟩
     ·rw [if_neg c19] at H
      have c19b0 : (a0_1 == 0) = false := beq_eq_false_iff_ne.mpr c19
      have c19b1 : (a0_1 != 0) = true := bne_iff_ne.mpr c19
      obtain rfl := Option.some.inj H
      go_enter Try.func105, Try.ntmps105
      go_wp2_with (first | ((with_reducible refine gate_dst (N := 1) rfl ?_); (try (refine gate_guard (by rfl) ?_; dsimp only)); refine bx_ 1 #[.int .i64 a0_0, .int .i64 a0_1, .string a0_2] 25 ?_; intro gb205 hg w22 hbox hb; have BK205 := Aside0.mk (hbox); have GW205 := gw_ hg; have GE205 := gw_ hg; replace HB := bs_ hb; clear hb hbox hg; obtain ⟨hcz23_0, hcz23_1, hcz23_2, hfz23_0, hfz23_1, hfz23_2⟩ := b3_ BK205))
      go_ret
      exact ⟨er_, bb_⟩
    ·rw [if_neg c18] at H
     have c18b0 : (a0_0 == 3) = false := beq_eq_false_iff_ne.mpr c18
     have c18b1 : (a0_0 != 3) = true := bne_iff_ne.mpr c18
     obtain rfl := Option.some.inj H
     go_enter Try.func105, Try.ntmps105
     go_wp2_with (first | ((with_reducible refine gate_dst (N := 1) rfl ?_); (try (refine gate_guard (by rfl) ?_; dsimp only)); refine bx_ 1 #[.int .i64 a0_0, .int .i64 a0_1, .string a0_2] 25 ?_; intro gb205 hg w24 hbox hb; have BK205 := Aside0.mk (hbox); have GW205 := gw_ hg; have GE205 := gw_ hg; replace HB := bs_ hb; clear hb hbox hg; obtain ⟨hcz25_0, hcz25_1, hcz25_2, hfz25_0, hfz25_1, hfz25_2⟩ := b3_ BK205))
     go_ret
     exact ⟨er_, bb_⟩

/-! ### slices.IndexFunc[[]loop.example/g00312/impl.Value,loop.example/g00312/impl.Value]: function 143 -/
set_option maxHeartbeats 4000000 in
theorem IndexFunc_T25.calls (f : S25 → Option Bool) (g : Nat) (lb : Array Value) (eg : ∀ args w, (callFunc g args).run Try.prog w = .ok (.enter g args) w) (A : Option Addr) (c : Nat) (xs : List S25) (r : Int) (w : World) (hr : Kd.C k25 w A xs.length xs) (hp : CB Try.prog k25 (fun cs => Value.agg cs.toArray) g lb f xs w) (h : idxO f xs 0 = some r) :
  Calls Try.prog 143 #[.slice A xs.length c, .func (.func g) #[] lb] w fun e w' => e = .returned (.int .i64 r) ∧ Below w.heap.size w w' := by
 have hbig : xs.length ≤ 9223372036854775807 := hr.2.1
 have HR := Aside0.mk hr
 have HP := Aside0.mk hp
 have HX := Aside0.mk h
 clear hr hp h
 go_enter Try.func143, Try.ntmps143
 go_wp2
 go_loopg [5, 8] xs.length (fun gg _ s8 wr => ∃ x : Int, s8 = .int .i64 x ∧ Aside0 (0 ≤ x ∧ x ≤ xs.length ∧ xs.length - x.toNat ≤ gg ∧ idxO f (xs.drop x.toNat) x = some r ∧ Below w.heap.size w wr))
 case atStart => exact ⟨0, rfl, ⟨by omega, by omega, by simp, by simpa using HX.out, Below.refl _ _⟩⟩
 case round =>
  obtain ⟨x, rfl, HI⟩ := hrel
  obtain ⟨x0, x1, hg, hi, BW⟩ := HI.out
  by_cases hlt : x < (xs.length : Int)
  ·have c4 : decide (x < (xs.length : Int)) = true := decide_eq_true hlt
   have c5 : decide (0 ≤ x) = true := decide_eq_true x0
   obtain ⟨ad, cs, rfl, hl, hK, hcell⟩ := Kd.C_get (Kd.C_below HR.out BW) (z25 : S25) x x0 hlt
   obtain ⟨b, hb, hm, ht, hf⟩ := idxO_step (z25 : S25) x0 hlt hi
   generalize xs.getD x.toNat (z25 : S25) = p at hK hb hm
   have hK0 := hK
   obtain rfl := k25_open hK
   have hcell1 : ∀ j u, ([(.int .i64 p.f0), (.int .i64 p.f1), (.string p.f2)] : List Value)[j]? = some u → wr.cell? (ad.add (x.toNat * 3 + j)) = some u := hcell
   have hc0 : wr.cell? (ad.add (x.toNat * 3)) = some (.int .i64 p.f0) := hcell1 0 _ rfl
   have hc1 : wr.cell? ⟨(ad.add (x.toNat * 3)).block, (ad.add (x.toNat * 3)).off + 1, none⟩ = some (.int .i64 p.f1) := by rw [← add_field _ _ 1 (by omega)]; exact hcell1 1 _ rfl
   have hc2 : wr.cell? ⟨(ad.add (x.toNat * 3)).block, (ad.add (x.toNat * 3)).off + 2, none⟩ = some (.string p.f2) := by rw [← add_field _ _ 2 (by omega)]; exact hcell1 2 _ rfl
   have hcall : Calls Try.prog g (#[(.agg #[(.int .i64 p.f0), (.int .i64 p.f1), (.string p.f2)])] ++ lb) wr (fun e w' => e = .returned (.bool b) ∧ Below wr.heap.size wr w') := HP.out wr _ _ b BW hm hK0 hb
   cases b with
   | true =>
    have HJ := Aside0.mk (And.intro (ht rfl) BW)
    clear hcell hcell1 hK hb hm ht hf hi BW HI hg hl hK0
    go_wp2_with (go_at_fn g; refine hcall.mono ?_; rintro e w' ⟨rfl, hb'⟩)
    go_ret
    exact ⟨ret_int_eq HJ.out.1.symm, HJ.out.2.trans (hb'.mono HJ.out.2.size)⟩
   | false =>
    have HJ := Aside0.mk (And.intro hg (And.intro (hf rfl) BW))
    clear hcell hcell1 hK hb hm ht hf hi BW HI hg hl hK0
    go_wp2_with (go_at_fn g; refine hcall.mono ?_; rintro e w' ⟨rfl, hb'⟩)
    go_roundg (xs.length - (x.toNat + 1))
    case measure => have := HJ.out.1; omega
    case rel => exact ⟨x + 1, by go_num, ⟨by omega, by omega, by omega, HJ.out.2.1, HJ.out.2.2.trans (hb'.mono HJ.out.2.2.size)⟩⟩
  ·have c4 : decide (x < (xs.length : Int)) = false := decide_eq_false hlt
   have hr : r = -1 := idxO_end hlt hi
   clear hi HI
   subst hr
   go_wp2
   go_ret
   exact ⟨rfl, BW⟩

/-! ### slices.ContainsFunc[[]loop.example/g00312/impl.Value,loop.example/g00312/impl.Value]: function 131 -/
set_option maxHeartbeats 4000000 in
theorem ContainsFunc_T25.calls (f : S25 → Option Bool) (g : Nat) (lb : Array Value) (eg : ∀ args w, (callFunc g args).run Try.prog w = .ok (.enter g args) w) (A : Option Addr) (c : Nat) (xs : List S25) (r : Int) (w : World) (hr : Kd.C k25 w A xs.length xs) (hp : CB Try.prog k25 (fun cs => Value.agg cs.toArray) g lb f xs w) (h : idxO f xs 0 = some r) :
  Calls Try.prog 131 #[.slice A xs.length c, .func (.func g) #[] lb] w fun e w' => e = .returned (.bool (decide (r ≥ 0))) ∧ Below w.heap.size w w' := by
 have hcall := IndexFunc_T25.calls f g lb eg A c xs r w hr hp h
 clear hr hp h
 go_enter Try.func131, Try.ntmps131
 go_wp2_with (go_at_call 143; refine hcall.mono ?_; rintro e w' ⟨rfl, hb'⟩)
 go_ret
 exact ⟨rfl, hb'⟩

-- NOT PRINTED: function 132 (impl_Value_1)

/-! ### loop.example/g00312/impl.areAll[loop.example/g00312/impl.Value]: function 113 -/
set_option maxHeartbeats 4000000 in
theorem areAll_T25.not (f : S25 → Option Bool) (g : Nat) (lb : Array Value) (eg : ∀ args w, (callFunc g args).run Try.prog w = .ok (.enter g args) w) (B : Nat) (xs : List S25) (w : World) (hB : B < w.heap.size) (hp : CB Try.prog k25 (fun cs => Value.agg cs.toArray) g lb f xs w) (hc : w.cell? ⟨B, 0, none⟩ = some (.func (.func g) #[] lb)) :
  CB Try.prog k25 (fun cs => Value.agg cs.toArray) 132 #[.pointer (some ⟨B, 0, none⟩)] (fun x => (f x).map not) xs w := by
   intro W x cs b hb hm hK hf
   obtain ⟨t, ht, rfl⟩ := Option.map_eq_some_iff.1 hf
   have hK0 := hK
   have hc' : W.cell? ⟨B, 0, none⟩ = some (.func (.func g) #[] lb) := (hb.cell (p := ⟨B, 0, none⟩) hB).trans hc
   obtain rfl := k25_open hK
   have hcall : ∀ W1, Below W.heap.size W W1 → Calls Try.prog g (#[(.agg #[(.int .i64 x.f0), (.int .i64 x.f1), (.string x.f2)])] ++ lb) W1 (fun e w' => e = .returned (.bool t) ∧ Below W1.heap.size W1 w') := fun W1 h1 => hp W1 x _ t (hb.trans (h1.mono hb.size)) hm (Kd.K_below _ h1 hK0) ht
   have hcd := fun o : Obj => cell_alloc_old o hc'
   have HN := Aside0.mk (show B ≠ W.heap.size from fun e => by have := hb.size; omega)
   clear hp hf hK hK0 hm hb hc ht 
   have hBW := HN.out
   have hBW' := Ne.symm hBW
   show Calls Try.prog 132 #[(.agg #[(.int .i64 x.f0), (.int .i64 x.f1), (.string x.f2)]), .pointer (some ⟨B, 0, none⟩)] W _
   go_enter Try.func132, Try.ntmps132
   go_wp2_with (go_at_fn g; refine (hcall _ (by first | exact Below.refl _ _ | exact below_alloc (Below.refl _ _) _)).mono ?_; rintro e w' ⟨rfl, hb'⟩)
   go_ret
   exact ⟨rfl, by first | exact hb' | exact (below_alloc (Below.refl _ _) _ : Below W.heap.size W _).trans (hb'.mono (by simp))⟩
set_option maxHeartbeats 4000000 in
theorem areAll_T25.calls (f : S25 → Option Bool) (g : Nat) (lb : Array Value) (eg : ∀ args w, (callFunc g args).run Try.prog w = .ok (.enter g args) w) (A : Option Addr) (c : Nat) (xs : List S25) (r : Bool) (w : World) (hr : Kd.C k25 w A xs.length xs) (hp : CB Try.prog k25 (fun cs => Value.agg cs.toArray) g lb f xs w) (h : allO f xs = some r) :
  Calls Try.prog 113 #[.slice A xs.length c, .func (.func g) #[] lb] w fun e w' => e = .returned (.bool r) ∧ Below w.heap.size w w' := by
 obtain ⟨j, hj, hjr⟩ := idxO_not h 0 (Int.le_refl _)
 have e_l : ∀ args w, (callFunc 132 args).run Try.prog w = .ok (.enter 132 args) w := enters_of Try.func132 (by kernel_rfl) rfl
 have hB0 : Below w.heap.size w (w.alloc (.cells #[.func (.func g) #[] lb] 122)) := below_alloc (Below.refl _ _) _
 have hp1 := CB.later hB0 hp
 have hnot := areAll_T25.not f g lb eg w.heap.size xs _ (by simp) hp1 (by simp)
 have hcall := ContainsFunc_T25.calls _ 132 _ e_l A c xs j _ (Kd.C_below hr hB0) hnot hj
 have HJ := Aside0.mk hjr
 clear hr hp h hjr hj hp1 hnot hB0
 go_enter Try.func113, Try.ntmps113
 go_wp2_with (go_at_call 131; refine hcall.mono ?_; rintro e w' ⟨rfl, hb'⟩)
 go_ret
 exact ⟨ret_bool_eq (by rw [HJ.out]; cases r <;> rfl), (below_alloc (Below.refl _ _) _ : Below w.heap.size w _).trans (hb'.mono (by simp))⟩

/-! ### impl_isRow: function 83 -/
-- by hand
def impl_isRow.f (l0 : List S25) (a1 : Int) : Option Bool := if (l0.length : Int) = a1 then allO (fun x => impl_ValueOk.f x.f0 x.f1 x.f2) l0 else some false
theorem ValueOk_cb (xs : List S25) (w : World) : CB Try.prog k25 (fun cs => Value.agg cs.toArray) 105 #[] (fun x => impl_ValueOk.f x.f0 x.f1 x.f2) xs w := by
  intro W x cs b _ _ hK hf
  obtain rfl := k25_open hK
  refine Calls.mono (show Calls Try.prog 105 #[.agg #[.int .i64 x.f0, .int .i64 x.f1, .string x.f2]] W _ from impl_ValueOk.calls _ _ _ b W hf) ?_
  rintro e w' ⟨rfl, hb⟩
  exact ⟨rfl, by first | exact hb | (obtain ⟨nd, rfl⟩ := hb; exact pw_below_drewN (Below.refl _ _) _)⟩
set_option maxHeartbeats 1000000 in
theorem impl_isRow.calls (A0 : Option Addr) (c0 : Nat) (l0 : List (S25)) (a1 : Int) (r : Bool) (w : World) (hr0 : Kd.C k25 w A0 l0.length l0) (hc0 : l0.length ≤ c0) (h : impl_isRow.f l0 a1 = some r) :
    Calls Try.prog 83 #[.slice A0 l0.length c0, .int .i64 a1] w fun e w' => e = .returned (.bool r) ∧ Below w.heap.size w w' := by
  unfold impl_isRow.f at h
  by_cases hl : (l0.length : Int) = a1
  · rw [if_pos hl] at h
    have eg : ∀ args w, (callFunc 105 args).run Try.prog w = .ok (.enter 105 args) w := enters_of Try.func105 (by kernel_rfl) rfl
    have hcall := fun W (hb : Below w.heap.size w W) => areAll_T25.calls _ 105 #[] eg A0 c0 l0 r W (Kd.C_below hr0 hb) (ValueOk_cb l0 W) h
    have hl1 : ((l0.length : Int) == a1) = true := beq_iff_eq.mpr hl
    clear hr0 h hl
    go_enter Try.func83, Try.ntmps83
    go_wp2_with (go_at_call 113; refine (hcall _ (by repeat (first | exact Below.refl _ _ | apply below_alloc | apply pw_below_drewN))).mono ?_; rintro e w' ⟨rfl, hb'⟩)
    go_ret
    exact ⟨rfl, by first | exact hb' | exact (pw_below_drewN (Below.refl _ _) _ : Below w.heap.size w _).trans hb'⟩
  · rw [if_neg hl] at h
    obtain rfl := Option.some.inj h
    have hl1 : ((l0.length : Int) == a1) = false := beq_eq_false_iff_ne.mpr hl
    clear h hl
    go_enter Try.func83, Try.ntmps83
    go_wp2
    go_ret
    exact ⟨rfl, by repeat (first | exact Below.refl _ _ | apply pw_below_drewN)⟩

end Go.Proofs.Ytapgfamppnhnmaa.PFnExactBagOf
