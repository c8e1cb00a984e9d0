-- WRITTEN BY xprint.py, a program of this session over the kit's printer: by nobody's hand
-- PRESSED
import Derived.Test.YtapgfamppnhnmaaPress
import Derived.Test.YtapgfamppnhnmaaPFnExactBagOfx0
import Derived.Test.YtapgfamppnhnmaaPFnExactBagOfx1
import Derived.Test.YtapgfamppnhnmaaPFnExactBagOfx5
import Derived.Test.YtapgfamppnhnmaaPFnExactBagOfx10
import Derived.Test.YtapgfamppnhnmaaPFnExactBagOfx11
import Derived.Test.YtapgfamppnhnmaaPFnExactBagOfx12
namespace Go.Proofs.Ytapgfamppnhnmaa.PFnExactBagOf
set_option maxRecDepth 100000
open Go.RowKit Go.Proofs.YtapgfamppnhnmaaW.PrintWords Go.Proofs.YtapgfamppnhnmaaW.PrintLast Go.Proofs.YtapgfamppnhnmaaW.PrintMore
attribute [local go_sem] max2_int min2_int max_two min_two max_three min_three max_four min_four   -- for this text's walks alone
set_option linter.unusedVariables false
set_option linter.unusedSimpArgs false

/-! ### laws_heldCountedS: function 52 -/
def laws_heldCountedS.l0 : Nat → List (S74) → Int → Int → Option (Int)
 | 0, _, _, _ => none
 | k + 1, x0, x1, x5 => if x5 < (x0.length : Int) then (if 0 ≤ x5 then ((laws_heldValueS.f k ((rd_T74 x0 x5).f0) x1).bind fun t255 => (if t255 < 0 then (some (-1)) else (if ((rd_T74 x0 x5).f1) = t255 then (laws_heldCountedS.l0 k x0 (wrap64 (t255 + 1)) (wrap64 (x5 + 1))) else (some (-1))))) else (none)) else (some x1)
def laws_heldCountedS.f (k : Nat) (l0 : List (S74)) (a1 : Int) : Option (Int) := laws_heldCountedS.l0 k l0 a1 0
set_option maxHeartbeats 8000000 in
theorem laws_heldCountedS.calls (k : Nat) (A0 : Option Addr) (c0 : Nat) (l0 : List (S74)) (a1 : Int) (r : Int) (w : World) (hr0 : Kd.C k74 w A0 l0.length l0) (hc0 : l0.length ≤ c0) (h : laws_heldCountedS.f k l0 a1 = some r) :
  Calls Try.prog 52 #[.slice A0 l0.length c0, .int .i64 a1] w fun e w' => e = .returned (.int .i64 r) ∧ Below w.heap.size w w' := by
 have HR0 := Aside0.mk hr0
 have HC0 := Aside0.mk hc0
 clear hr0 hc0
 have HB := Aside0.mk (Below.refl w.heap.size w)
 have H : (laws_heldCountedS.l0 k l0 a1 0) = some r := h
 clear h
 have H' := Aside0.mk H
 clear H
 go_enter Try.func52, Try.ntmps52
 go_wp2
 go_loopg [1, 5] k (fun kq v1 v5 w' => ∃ (x1_1 : Int) (x5_1 : Int), v1 = .int .i64 x1_1 ∧ v5 = .int .i64 x5_1 ∧ Aside0 (laws_heldCountedS.l0 kq l0 x1_1 x5_1 = some r) ∧ Aside0 (kq ≤ k) ∧ Aside0 (Below w.heap.size w w'))
 case atStart => exact ⟨(a1), (0), rs_, rs_, H', ⟨Nat.le_refl _⟩, ⟨bb_⟩⟩
 case round =>
  clear H'
  try clear p2
  obtain ⟨x1_1, x5_1, rfl, rfl, HA, HK1, HB⟩ := hrel
  cases gk with
  | zero => exact absurd HA.out (by simp [laws_heldCountedS.l0])
  | succ k1 =>
   have H := HA.out
   clear HA
   simp only [laws_heldCountedS.l0] at H
   by_cases c3 : x5_1 < (l0.length : Int)
   ·rw [if_pos c3] at H
    have c3b0 : decide (x5_1 < (l0.length : Int)) = true := decide_eq_true c3
    clear c3
    by_cases c4 : 0 ≤ x5_1
    ·rw [if_pos c4] at H
     have c4b0 : decide (0 ≤ x5_1) = true := decide_eq_true c4
     clear c4
     replace H := Option.bind_eq_some_iff.mp H
     obtain ⟨t255, A50, H⟩ := H
     replace H : (if t255 < 0 then (some (-1)) else (if ((rd_T74 l0 x5_1).f1) = t255 then (laws_heldCountedS.l0 k1 l0 (wrap64 (t255 + 1)) (wrap64 (x5_1 + 1))) else (some (-1)))) = some r := H
     have A5 := Aside0.mk A50
     clear A50
     by_cases c6 : t255 < 0
     ·rw [if_pos c6] at H
      have c6b0 : decide (t255 < 0) = true := decide_eq_true c6
      clear c6
      obtain rfl := Option.some.inj H
      have p254 : 0 ≤ (x5_1 : Int) := od_
      have q254 : x5_1 < (l0.length : Int) := od_
      obtain ⟨ad254, A254_0, c254_0, e254, hx254_0, hx254_1, hl254_0, hi254_0⟩ := at_T74 HR0.out x5_1 p254 q254
      cases e254
      replace hx254_0 := hb_ HB hx254_0
      replace hx254_1 := hb_ HB hx254_1
      have HR254_0 := Aside0.mk hi254_0
      have HC254_0 := Aside0.mk hl254_0
      clear hi254_0 hl254_0
      replace p254 := eq_true p254
      replace q254 := eq_true q254
      go_wp2_with (first | ((with_reducible refine gate_callee (f := 85) rfl ?_); refine gsL_ (some 18) Try.func85 #[.slice A254_0 ((rd_T74 l0 x5_1).f0).length c254_0, .int .i64 x1_1] ?_; (with_reducible refine (laws_heldValueS.calls k1 _ _ ((rd_T74 l0 x5_1).f0) x1_1 t255 _ ?side1 ?side2 A5.out).mono ?_); (case side1 => exact ck_ (Kd.C_below HR254_0.out HB.out)); (case side2 => exact HC254_0.out); rintro e w7 ⟨rfl, hb⟩; refine ⟨_, rfl, ?_⟩; replace HB := bs_ hb; (try clear hb); (try clear hb2); (try clear hk); (try clear hi)))
      go_ret
      exact ⟨er_, bb_⟩
     ·rw [if_neg c6] at H
      have c6b0 : decide (t255 < 0) = false := decide_eq_false c6
      clear c6
      by_cases c8 : ((rd_T74 l0 x5_1).f1) = t255
      ·rw [if_pos c8] at H
       have c8b0 : (((rd_T74 l0 x5_1).f1) == t255) = true := beq_iff_eq.mpr c8
       have c8b1 : (((rd_T74 l0 x5_1).f1) != t255) = false := bne_eq_false_iff_eq.mpr c8
       clear c8
       have H' := Aside0.mk H
       clear H
       have p254 : 0 ≤ (x5_1 : Int) := od_
       have q254 : x5_1 < (l0.length : Int) := od_
       obtain ⟨ad254, A254_0, c254_0, e254, hx254_0, hx254_1, hl254_0, hi254_0⟩ := at_T74 HR0.out x5_1 p254 q254
       cases e254
       replace hx254_0 := hb_ HB hx254_0
       replace hx254_1 := hb_ HB hx254_1
       have HR254_0 := Aside0.mk hi254_0
       have HC254_0 := Aside0.mk hl254_0
       clear hi254_0 hl254_0
       replace p254 := eq_true p254
       replace q254 := eq_true q254
       go_wp2_with (first | ((with_reducible refine gate_callee (f := 85) rfl ?_); refine gsL_ (some 18) Try.func85 #[.slice A254_0 ((rd_T74 l0 x5_1).f0).length c254_0, .int .i64 x1_1] ?_; (with_reducible refine (laws_heldValueS.calls k1 _ _ ((rd_T74 l0 x5_1).f0) x1_1 t255 _ ?side1 ?side2 A5.out).mono ?_); (case side1 => exact ck_ (Kd.C_below HR254_0.out HB.out)); (case side2 => exact HC254_0.out); rintro e w9 ⟨rfl, hb⟩; refine ⟨_, rfl, ?_⟩; replace HB := bs_ hb; (try clear hb); (try clear hb2); (try clear hk); (try clear hi); have p256 : 0 ≤ (x5_1 : Int) := od_; have q256 : x5_1 < (l0.length : Int) := od_; obtain ⟨ad256, A256_0, c256_0, e256, hx256_0, hx256_1, hl256_0, hi256_0⟩ := at_T74 HR0.out x5_1 p256 q256; obtain rfl : ad254 = ad256 := (by injection e256); replace hx256_0 := hb_ HB hx256_0; replace hx256_1 := hb_ HB hx256_1; have HR256_0 := Aside0.mk hi256_0; have HC256_0 := Aside0.mk hl256_0; clear hi256_0 hl256_0; replace p256 := eq_true p256; replace q256 := eq_true q256))
       go_roundg k1
       case measure => have := HK1.out; omega
       case rel => exact ⟨(wrap64 (t255 + 1)), (wrap64 (x5_1 + 1)), rs_, rs_, H', ⟨by have := HK1.out; omega⟩, ⟨bb_⟩⟩
      ·rw [if_neg c8] at H
       have c8b0 : (((rd_T74 l0 x5_1).f1) == t255) = false := beq_eq_false_iff_ne.mpr c8
       have c8b1 : (((rd_T74 l0 x5_1).f1) != t255) = true := bne_iff_ne.mpr c8
       obtain rfl := Option.some.inj H
       have p254 : 0 ≤ (x5_1 : Int) := od_
       have q254 : x5_1 < (l0.length : Int) := od_
       obtain ⟨ad254, A254_0, c254_0, e254, hx254_0, hx254_1, hl254_0, hi254_0⟩ := at_T74 HR0.out x5_1 p254 q254
       cases e254
       replace hx254_0 := hb_ HB hx254_0
       replace hx254_1 := hb_ HB hx254_1
       have HR254_0 := Aside0.mk hi254_0
       have HC254_0 := Aside0.mk hl254_0
       clear hi254_0 hl254_0
       replace p254 := eq_true p254
       replace q254 := eq_true q254
       go_wp2_with (first | ((with_reducible refine gate_callee (f := 85) rfl ?_); refine gsL_ (some 18) Try.func85 #[.slice A254_0 ((rd_T74 l0 x5_1).f0).length c254_0, .int .i64 x1_1] ?_; (with_reducible refine (laws_heldValueS.calls k1 _ _ ((rd_T74 l0 x5_1).f0) x1_1 t255 _ ?side1 ?side2 A5.out).mono ?_); (case side1 => exact ck_ (Kd.C_below HR254_0.out HB.out)); (case side2 => exact HC254_0.out); rintro e w10 ⟨rfl, hb⟩; refine ⟨_, rfl, ?_⟩; replace HB := bs_ hb; (try clear hb); (try clear hb2); (try clear hk); (try clear hi); have p256 : 0 ≤ (x5_1 : Int) := od_; have q256 : x5_1 < (l0.length : Int) := od_; obtain ⟨ad256, A256_0, c256_0, e256, hx256_0, hx256_1, hl256_0, hi256_0⟩ := at_T74 HR0.out x5_1 p256 q256; obtain rfl : ad254 = ad256 := (by injection e256); replace hx256_0 := hb_ HB hx256_0; replace hx256_1 := hb_ HB hx256_1; have HR256_0 := Aside0.mk hi256_0; have HC256_0 := Aside0.mk hl256_0; clear hi256_0 hl256_0; replace p256 := eq_true p256; replace q256 := eq_true q256))
       go_ret
       exact ⟨er_, bb_⟩
    ·rw [if_neg c4] at H
     exact absurd H (by simp)
   ·rw [if_neg c3] at H
    have c3b0 : decide (x5_1 < (l0.length : Int)) = false := decide_eq_false c3
    clear c3
    obtain rfl := Option.some.inj H
    go_wp2
    go_ret
    exact ⟨er_, bb_⟩

/-! ### laws_heldBag: function 23 -/
def laws_heldBag.f (k : Nat) (a0_0 : Int) (l0_1 : List (S74)) (a1 : Int) : Option (Int) := (laws_heldCountedS.f k l0_1 a1).bind fun t258 => (if t258 < 0 then (some (-1)) else (some t258))
set_option maxHeartbeats 8000000 in
theorem laws_heldBag.calls (k : Nat) (a0_0 : Int) (A0_1 : Option Addr) (c0_1 : Nat) (l0_1 : List (S74)) (a1 : Int) (r : Int) (w : World) (hr0_1 : Kd.C k74 w A0_1 l0_1.length l0_1) (hc0_1 : l0_1.length ≤ c0_1) (h : laws_heldBag.f k a0_0 l0_1 a1 = some r) :
  Calls Try.prog 23 #[.agg #[.int .i64 a0_0, .slice A0_1 l0_1.length c0_1], .int .i64 a1] w fun e w' => e = .returned (.int .i64 r) ∧ Below w.heap.size w w' := by
 have hu40 := Try.underlying40
 have HR0_1 := Aside0.mk hr0_1
 have HC0_1 := Aside0.mk hc0_1
 clear hr0_1 hc0_1
 have HB := Aside0.mk (Below.refl w.heap.size w)
 have H : ((laws_heldCountedS.f k l0_1 a1).bind fun t258 => (if t258 < 0 then (some (-1)) else (some t258))) = some r := h
 clear h
 replace H := Option.bind_eq_some_iff.mp H
 obtain ⟨t258, A30, H⟩ := H
 replace H : (if t258 < 0 then (some (-1)) else (some t258)) = some r := H
 have A3 := Aside0.mk A30
 clear A30
 by_cases c4 : t258 < 0
 ·rw [if_pos c4] at H
  have c4b0 : decide (t258 < 0) = true := decide_eq_true c4
  clear c4
  obtain rfl := Option.some.inj H
  go_enter Try.func23, Try.ntmps23
  go_wp2_with (first | ((with_reducible refine gate_dst (N := 2) rfl ?_); refine bx_ 2 #[.int .i64 a0_0, .slice A0_1 l0_1.length c0_1] 40 ?_; intro gb257 hg w5 hbox hb; have BK257 := Aside0.mk (hbox); have GW257 := gw_ hg; have GE257 := gw_ hg; replace HB := bs_ hb; clear hb hbox hg; obtain ⟨hcz6_0, hcz6_1, hfz6_0, hfz6_1⟩ := b2_ BK257) | ((with_reducible refine gate_callee (f := 52) rfl ?_); refine gsL_ (some 8) Try.func52 #[.slice A0_1 l0_1.length c0_1, .int .i64 a1] ?_; (with_reducible refine (laws_heldCountedS.calls k _ _ l0_1 a1 t258 _ ?side1 ?side2 A3.out).mono ?_); (case side1 => exact ck_ (Kd.C_below HR0_1.out HB.out)); (case side2 => exact HC0_1.out); rintro e w7 ⟨rfl, hb⟩; refine ⟨_, rfl, ?_⟩; replace BK257 := bkb_ BK257 hb; replace HB := bs_ hb; (try clear hb); (try clear hb2); (try clear hk); (try clear hi)))
  go_ret
  exact ⟨er_, bb_⟩
 ·rw [if_neg c4] at H
  have c4b0 : decide (t258 < 0) = false := decide_eq_false c4
  clear c4
  obtain rfl := Option.some.inj H
  go_enter Try.func23, Try.ntmps23
  go_wp2_with (first | ((with_reducible refine gate_dst (N := 2) rfl ?_); refine bx_ 2 #[.int .i64 a0_0, .slice A0_1 l0_1.length c0_1] 40 ?_; intro gb257 hg w8 hbox hb; have BK257 := Aside0.mk (hbox); have GW257 := gw_ hg; have GE257 := gw_ hg; replace HB := bs_ hb; clear hb hbox hg; obtain ⟨hcz9_0, hcz9_1, hfz9_0, hfz9_1⟩ := b2_ BK257) | ((with_reducible refine gate_callee (f := 52) rfl ?_); refine gsL_ (some 8) Try.func52 #[.slice A0_1 l0_1.length c0_1, .int .i64 a1] ?_; (with_reducible refine (laws_heldCountedS.calls k _ _ l0_1 a1 t258 _ ?side1 ?side2 A3.out).mono ?_); (case side1 => exact ck_ (Kd.C_below HR0_1.out HB.out)); (case side2 => exact HC0_1.out); rintro e w10 ⟨rfl, hb⟩; refine ⟨_, rfl, ?_⟩; replace BK257 := bkb_ BK257 hb; replace HB := bs_ hb; (try clear hb); (try clear hb2); (try clear hk); (try clear hi)))
  go_ret
  exact ⟨er_, bb_⟩

/-! ### laws_FnExactBagOf: function 4, turned -/
def laws_FnExactBagOf.j0 : Nat → Int → List (List (S56)) → Bool → Int → List (S74) → Int → List (S74) → Option (Bool)
 | 0, _, _, _, _, _, _, _ => none
 | k + 1, x0, x1, x46, x268000, x268001, x276000, x276001 => if x46 = true then (none) else ((laws_markBag.f k x276000 x276001 1).bind fun bt283 => ((laws_heldBag.f k x276000 bt283.2 1).bind fun t284 => (if t284 < 0 then (none) else (if t284 = bt283.1 then ((laws_toValueSS.f k x1).bind fun t285 => ((impl_BagOf.f k x0 t285).bind fun bt288 => ((laws_eqBag.f k bt288.1 bt288.2 x268000 x268001).bind fun t293 => (if t293 = true then ((laws_heldBag.f k x276000 bt283.2 1).bind fun t294 => (if t294 < 0 then (none) else (if t294 = bt283.1 then (some true) else (none)))) else (none))))) else (none)))))
def laws_FnExactBagOf.f (k : Nat) (a0 : Int) (l1 : List (List (S56))) : Option (Bool) := (laws_szValueSS.f k l1 1048576).bind fun t259 => (if t259 < 0 then (some true) else ((laws_toValueSS.f k l1).bind fun t260 => ((spec_BagOf.f k a0 t260).bind fun bt263 => ((laws_toValueSS.f k l1).bind fun t268 => ((impl_BagOf.f k a0 t268).bind fun bt271 => ((laws_eqBag.f k bt271.1 bt271.2 bt263.1 bt263.2).bind fun t276 => (if t276 = true then ((laws_toValueSS.f k l1).bind fun t277 => ((laws_eqValueSS.f k t268 t277).bind fun t280 => (if t280 = true then ((laws_markValueSS.f k t268 1).bind fun bt281 => (if bt281.1 < 0 then (none) else ((laws_eqBag.f k bt271.1 bt271.2 bt263.1 bt263.2).bind fun t282 => (laws_FnExactBagOf.j0 k a0 l1 (!t282) bt263.1 bt263.2 bt271.1 bt271.2)))) else (none)))) else (none))))))))
theorem bn_ {wN W0 W : World} (x : Below wN.heap.size wN W0) (h : Ext W0 W := by repeat (first | with_reducible exact Ext.refl | with_reducible apply Ext.alloc | with_reducible apply Ext.drewN | with_reducible apply Ext.drew | exact Ext.refl)) : Below wN.heap.size wN W := by
 induction h with
 | refl => exact x
 | alloc _ o ih => exact below_alloc ih o
 | drewN _ m ih => exact pw_below_drewN ih m
 | drew _ ih => exact below_drew1 ih
set_option maxHeartbeats 8000000 in
theorem laws_FnExactBagOf.calls (k : Nat) (a0 : Int) (A1 : Option Addr) (c1 : Nat) (l1 : List (List (S56))) (r : Bool) (w : World) (hr1 : Kd.C (Kd.slice 56 k56) w A1 l1.length l1) (hc1 : l1.length ≤ c1) (h : laws_FnExactBagOf.f k a0 l1 = some r) :
  Calls Try.prog 4 #[.int .i64 a0, .slice A1 l1.length c1] w fun e w' => e = .returned (.bool r) ∧ Below w.heap.size w w' := by
 have hu40 := Try.underlying40
 have HR1 := Aside0.mk hr1
 have HC1 := Aside0.mk hc1
 clear hr1 hc1
 have HB := Aside0.mk (Below.refl w.heap.size w)
 have H : ((laws_szValueSS.f k l1 1048576).bind fun t259 => (if t259 < 0 then (some true) else ((laws_toValueSS.f k l1).bind fun t260 => ((spec_BagOf.f k a0 t260).bind fun bt263 => ((laws_toValueSS.f k l1).bind fun t268 => ((impl_BagOf.f k a0 t268).bind fun bt271 => ((laws_eqBag.f k bt271.1 bt271.2 bt263.1 bt263.2).bind fun t276 => (if t276 = true then ((laws_toValueSS.f k l1).bind fun t277 => ((laws_eqValueSS.f k t268 t277).bind fun t280 => (if t280 = true then ((laws_markValueSS.f k t268 1).bind fun bt281 => (if bt281.1 < 0 then (none) else ((laws_eqBag.f k bt271.1 bt271.2 bt263.1 bt263.2).bind fun t282 => (laws_FnExactBagOf.j0 k a0 l1 (!t282) bt263.1 bt263.2 bt271.1 bt271.2)))) else (none)))) else (none))))))))) = some r := h
 clear h
 replace H := Option.bind_eq_some_iff.mp H
 obtain ⟨t259, A30, H⟩ := H
 replace H : (if t259 < 0 then (some true) else ((laws_toValueSS.f k l1).bind fun t260 => ((spec_BagOf.f k a0 t260).bind fun bt263 => ((laws_toValueSS.f k l1).bind fun t268 => ((impl_BagOf.f k a0 t268).bind fun bt271 => ((laws_eqBag.f k bt271.1 bt271.2 bt263.1 bt263.2).bind fun t276 => (if t276 = true then ((laws_toValueSS.f k l1).bind fun t277 => ((laws_eqValueSS.f k t268 t277).bind fun t280 => (if t280 = true then ((laws_markValueSS.f k t268 1).bind fun bt281 => (if bt281.1 < 0 then (none) else ((laws_eqBag.f k bt271.1 bt271.2 bt263.1 bt263.2).bind fun t282 => (laws_FnExactBagOf.j0 k a0 l1 (!t282) bt263.1 bt263.2 bt271.1 bt271.2)))) else (none)))) else (none)))))))) = some r := H
 have A3 := Aside0.mk A30
 clear A30
 by_cases c4 : t259 < 0
 ·rw [if_pos c4] at H
  have c4b0 : decide (t259 < 0) = true := decide_eq_true c4
  clear c4
  obtain rfl := Option.some.inj H
  go_enter Try.func4, Try.ntmps4
  go_wp2_with (first | ((with_reducible refine gate_callee (f := 15) rfl ?_); refine gsL_ (some 15) Try.func15 #[.slice A1 l1.length c1, .int .i64 1048576] ?_; (with_reducible refine (laws_szValueSS.calls k _ _ l1 1048576 t259 _ ?side1 ?side2 A3.out).mono ?_); (case side1 => exact ck_ HR1.out); (case side2 => exact HC1.out); rintro e w5 ⟨rfl, hb⟩; refine ⟨_, rfl, ?_⟩; replace HB := bs_ hb; (try clear hb); (try clear hb2); (try clear hk); (try clear hi)))
  go_ret
  exact ⟨er_, bb_⟩
 ·rw [if_neg c4] at H
  have c4b0 : decide (t259 < 0) = false := decide_eq_false c4
  clear c4
  replace H := Option.bind_eq_some_iff.mp H
  obtain ⟨t260, A60, H⟩ := H
  replace H : ((spec_BagOf.f k a0 t260).bind fun bt263 => ((laws_toValueSS.f k l1).bind fun t268 => ((impl_BagOf.f k a0 t268).bind fun bt271 => ((laws_eqBag.f k bt271.1 bt271.2 bt263.1 bt263.2).bind fun t276 => (if t276 = true then ((laws_toValueSS.f k l1).bind fun t277 => ((laws_eqValueSS.f k t268 t277).bind fun t280 => (if t280 = true then ((laws_markValueSS.f k t268 1).bind fun bt281 => (if bt281.1 < 0 then (none) else ((laws_eqBag.f k bt271.1 bt271.2 bt263.1 bt263.2).bind fun t282 => (laws_FnExactBagOf.j0 k a0 l1 (!t282) bt263.1 bt263.2 bt271.1 bt271.2)))) else (none)))) else (none)))))) = some r := H
  have A6 := Aside0.mk A60
  clear A60
  replace H := Option.bind_eq_some_iff.mp H
  obtain ⟨⟨t263, t264⟩, A70, H⟩ := H
  replace H : ((laws_toValueSS.f k l1).bind fun t268 => ((impl_BagOf.f k a0 t268).bind fun bt271 => ((laws_eqBag.f k bt271.1 bt271.2 t263 t264).bind fun t276 => (if t276 = true then ((laws_toValueSS.f k l1).bind fun t277 => ((laws_eqValueSS.f k t268 t277).bind fun t280 => (if t280 = true then ((laws_markValueSS.f k t268 1).bind fun bt281 => (if bt281.1 < 0 then (none) else ((laws_eqBag.f k bt271.1 bt271.2 t263 t264).bind fun t282 => (laws_FnExactBagOf.j0 k a0 l1 (!t282) t263 t264 bt271.1 bt271.2)))) else (none)))) else (none))))) = some r := H
  have A7 := Aside0.mk A70
  clear A70
  replace H := Option.bind_eq_some_iff.mp H
  obtain ⟨t268, A80, H⟩ := H
  replace H : ((impl_BagOf.f k a0 t268).bind fun bt271 => ((laws_eqBag.f k bt271.1 bt271.2 t263 t264).bind fun t276 => (if t276 = true then ((laws_toValueSS.f k l1).bind fun t277 => ((laws_eqValueSS.f k t268 t277).bind fun t280 => (if t280 = true then ((laws_markValueSS.f k t268 1).bind fun bt281 => (if bt281.1 < 0 then (none) else ((laws_eqBag.f k bt271.1 bt271.2 t263 t264).bind fun t282 => (laws_FnExactBagOf.j0 k a0 l1 (!t282) t263 t264 bt271.1 bt271.2)))) else (none)))) else (none)))) = some r := H
  have A8 := Aside0.mk A80
  clear A80
  replace H := Option.bind_eq_some_iff.mp H
  obtain ⟨⟨t271, t272⟩, A90, H⟩ := H
  replace H : ((laws_eqBag.f k t271 t272 t263 t264).bind fun t276 => (if t276 = true then ((laws_toValueSS.f k l1).bind fun t277 => ((laws_eqValueSS.f k t268 t277).bind fun t280 => (if t280 = true then ((laws_markValueSS.f k t268 1).bind fun bt281 => (if bt281.1 < 0 then (none) else ((laws_eqBag.f k t271 t272 t263 t264).bind fun t282 => (laws_FnExactBagOf.j0 k a0 l1 (!t282) t263 t264 t271 t272)))) else (none)))) else (none))) = some r := H
  have A9 := Aside0.mk A90
  clear A90
  replace H := Option.bind_eq_some_iff.mp H
  obtain ⟨t276, A100, H⟩ := H
  replace H : (if t276 = true then ((laws_toValueSS.f k l1).bind fun t277 => ((laws_eqValueSS.f k t268 t277).bind fun t280 => (if t280 = true then ((laws_markValueSS.f k t268 1).bind fun bt281 => (if bt281.1 < 0 then (none) else ((laws_eqBag.f k t271 t272 t263 t264).bind fun t282 => (laws_FnExactBagOf.j0 k a0 l1 (!t282) t263 t264 t271 t272)))) else (none)))) else (none)) = some r := H
  have A10 := Aside0.mk A100
  clear A100
  by_cases c11 : t276 = true
  ·subst c11
   have H1 : ((laws_toValueSS.f k l1).bind fun t277 => ((laws_eqValueSS.f k t268 t277).bind fun t280 => (if t280 = true then ((laws_markValueSS.f k t268 1).bind fun bt281 => (if bt281.1 < 0 then (none) else ((laws_eqBag.f k t271 t272 t263 t264).bind fun t282 => (laws_FnExactBagOf.j0 k a0 l1 (!t282) t263 t264 t271 t272)))) else (none)))) = some r := by rw [if_pos rfl] at H; exact H
   clear H
   have H := H1
   clear H1
   replace H := Option.bind_eq_some_iff.mp H
   obtain ⟨t277, A120, H⟩ := H
   replace H : ((laws_eqValueSS.f k t268 t277).bind fun t280 => (if t280 = true then ((laws_markValueSS.f k t268 1).bind fun bt281 => (if bt281.1 < 0 then (none) else ((laws_eqBag.f k t271 t272 t263 t264).bind fun t282 => (laws_FnExactBagOf.j0 k a0 l1 (!t282) t263 t264 t271 t272)))) else (none))) = some r := H
   have A12 := Aside0.mk A120
   clear A120
   replace H := Option.bind_eq_some_iff.mp H
   obtain ⟨t280, A130, H⟩ := H
   replace H : (if t280 = true then ((laws_markValueSS.f k t268 1).bind fun bt281 => (if bt281.1 < 0 then (none) else ((laws_eqBag.f k t271 t272 t263 t264).bind fun t282 => (laws_FnExactBagOf.j0 k a0 l1 (!t282) t263 t264 t271 t272)))) else (none)) = some r := H
   have A13 := Aside0.mk A130
   clear A130
   by_cases c14 : t280 = true
   ·subst c14
    have H1 : ((laws_markValueSS.f k t268 1).bind fun bt281 => (if bt281.1 < 0 then (none) else ((laws_eqBag.f k t271 t272 t263 t264).bind fun t282 => (laws_FnExactBagOf.j0 k a0 l1 (!t282) t263 t264 t271 t272)))) = some r := by rw [if_pos rfl] at H; exact H
    clear H
    have H := H1
    clear H1
    replace H := Option.bind_eq_some_iff.mp H
    obtain ⟨⟨t281, m268⟩, A150, H⟩ := H
    replace H : (if t281 < 0 then (none) else ((laws_eqBag.f k t271 t272 t263 t264).bind fun t282 => (laws_FnExactBagOf.j0 k a0 l1 (!t282) t263 t264 t271 t272))) = some r := H
    have A15 := Aside0.mk A150
    clear A150
    have HC16 := Aside0.mk H
    clear H
    go_enter Try.func4, Try.ntmps4
    go_upto_region 14 with (first | ((with_reducible refine gate_callee (f := 15) rfl ?_); refine gsL_ (some 15) Try.func15 #[.slice A1 l1.length c1, .int .i64 1048576] ?_; (with_reducible refine (laws_szValueSS.calls k _ _ l1 1048576 t259 _ ?side1 ?side2 A3.out).mono ?_); (case side1 => exact ck_ HR1.out); (case side2 => exact HC1.out); rintro e w17 ⟨rfl, hb⟩; refine ⟨_, rfl, ?_⟩; replace HB := bs_ hb; (try clear hb); (try clear hb2); (try clear hk); (try clear hi)) | ((with_reducible refine gate_callee (f := 17) rfl ?_); refine gsL_ (some 20) Try.func17 #[.slice A1 l1.length c1] ?_; (with_reducible refine (laws_toValueSS.calls k _ _ l1 t260 _ ?side1 ?side2 A6.out).mono ?_); (case side1 => exact ck_ (Kd.C_below HR1.out HB.out)); (case side2 => exact HC1.out); rintro e w18 ⟨v261, rfl, ho0, hb⟩; refine ⟨_, rfl, ?_⟩; have HO262 := Aside0.mk (Kd.N_lower (Kd.N_mono (ok' := fun k_ => True) (Kd.S_N (Kd.S_bound ho0)) (fun k_ hk_ => trivial)) (below_size bb_)); replace HB := bs_ hb; (try clear hb); (try clear hb2); (try clear hk); (try clear hi); (try clear ho0); obtain ⟨Ao19, co19, eo19⟩ := Kd.N_slice HO262.out; subst eo19) | ((with_reducible refine gate_callee (f := 16) rfl ?_); refine gsL_ (some 21) Try.func16 #[.int .i64 a0, .slice Ao19 t260.length co19] ?_; (with_reducible refine (spec_BagOf.calls k a0 _ _ t260 t263 t264 _ ?side1 ?side2 A7.out).mono ?_); (case side1 => exact ck_ (Kd.N_reads' HO262.out).2.2); (case side2 => exact (Kd.N_reads' HO262.out).2.1); rintro e w20 ⟨v265, rfl, ho0, hb⟩; refine ⟨_, rfl, ?_⟩; have HO266 := Aside0.mk (Kd.V_lower (Kd.V_mono (ok' := fun k_ => some k_ ≠ (.slice Ao19 t260.length co19 : Value).ownBlock) ho0 (fun k_ hk_ => (Kd.fresh' (Kd.N_lt (by (with_reducible repeat (first | apply Kd.N_alloc | apply Kd.N_drewN | apply Kd.N_drew)); exact HO262.out)) k_ hk_))) (below_size bb_)); replace HO262 := Aside0.mk (Kd.N_below (by (with_reducible repeat (first | apply Kd.N_alloc | apply Kd.N_drewN | apply Kd.N_drew)); exact HO262.out) hb); replace HB := bs_ hb; (try clear hb); (try clear hb2); (try clear hk); (try clear hi); (try clear ho0)) | ((with_reducible refine gate_dst (N := 6) rfl ?_); refine bx_ 6 #[.int .i64 0, .slice none 0 0] 40 ?_; intro gb267 hg w21 hbox hb; have BK267 := Aside0.mk (hbox); have GW267 := gw_ hg; have GE267 := gw_ hg; replace HO262 := Aside0.mk (Kd.N_below (Kd.N_elderB (by (with_reducible repeat (first | apply Kd.N_alloc | apply Kd.N_drewN | apply Kd.N_drew)); exact HO262.out) gb267 (Nat.le_of_eq hg.symm)) hb); replace HO266 := Aside0.mk (Kd.V_below (Kd.V_elderB (by (with_reducible repeat (first | apply Kd.V_alloc | apply Kd.V_drewN | apply Kd.V_drew)); exact HO266.out) gb267 (Nat.le_of_eq hg.symm)) hb); replace HB := bs_ hb; clear hb hbox hg; obtain ⟨hcz22_0, hcz22_1, hfz22_0, hfz22_1⟩ := b2_ BK267; obtain ⟨Ao23, co23, eo23⟩ := Kd.V_slice HO266.out; subst eo23) | ((with_reducible refine gate_callee (f := 17) rfl ?_); refine gsL_ (some 23) Try.func17 #[.slice A1 l1.length c1] ?_; (with_reducible refine (laws_toValueSS.calls k _ _ l1 t268 _ ?side1 ?side2 A8.out).mono ?_); (case side1 => exact Kd.C_below HR1.out bb_); (case side2 => exact HC1.out); rintro e w24 ⟨v269, rfl, ho0, hb⟩; refine ⟨_, rfl, ?_⟩; obtain ⟨wX, fXB, fw, fg, fX0, fX1⟩ : ∃ wX : World, Aside0 (Below wX.heap.size wX w24) ∧ Aside0 (Below w.heap.size w wX) ∧ Aside0 (gb267 < wX.heap.size) ∧ Aside0 (Kd.V k74 74 w24 w.heap.size (fun k_ => k_ < wX.heap.size ∧ k_ ≠ gb267) (.slice Ao23 t264.length co23) t264) ∧ Aside0 (Kd.S (Kd.slice 25 k25) 70 w24 wX.heap.size (fun _ => True) v269 t268) := ⟨_, ⟨hb⟩, ⟨bb_⟩, ⟨blk_lt (g := gb267) (bp2_ (bkx_ BK267.out))⟩, ⟨Kd.V_mono (Kd.V_old (by (with_reducible repeat (first | apply Kd.V_alloc | apply Kd.V_drewN | apply Kd.V_drew)); exact (Kd.V_mono (Kd.V_far (p := ⟨gb267, 1, none⟩) (Kd.V_far (p := ⟨gb267, 0, none⟩) (Kd.V_mono HO266.out (fun k_ hk => (⟨hk, hk.2⟩ : _ ∧ k_ ≠ gb267))) (fun _ hk => hk.2) (.int .i64 t263)) (fun _ hk => hk.2) (.slice Ao23 t264.length co23)) (fun _ h_ => h_.1))) hb) (fun k_ (h_ : (some k_ ≠ (.slice Ao19 t260.length co19 : Value).ownBlock ∧ k_ ≠ gb267) ∧ k_ < _) => ⟨h_.2, h_.1.2⟩)⟩, ⟨ho0⟩⟩; have HO270 := Aside0.mk (Kd.N_lower (Kd.N_mono (ok' := fun k_ => some k_ ≠ (.slice Ao19 t260.length co19 : Value).ownBlock ∧ k_ ≠ gb267) (Kd.S_N (Kd.S_bound ho0)) (fun k_ hk_ => ⟨(Kd.fresh' (Kd.N_lt (by (with_reducible repeat (first | apply Kd.N_alloc | apply Kd.N_drewN | apply Kd.N_drew)); exact (Kd.N_mono (Kd.N_far (p := ⟨gb267, 1, none⟩) (Kd.N_far (p := ⟨gb267, 0, none⟩) (Kd.N_mono HO262.out (fun k_ hk => (⟨hk, hk.2⟩ : _ ∧ k_ ≠ gb267))) (fun _ hk => hk.2) (.int .i64 t263)) (fun _ hk => hk.2) (.slice Ao23 t264.length co23)) (fun _ h_ => h_.1)))) k_ hk_.2.1), (Kd.freshB (g := gb267) (o := .cells #[.int .i64 t263, .slice Ao23 t264.length co23] 40 (0, 0)) (bp2_ (bkx_ BK267.out)) k_ hk_.2.1)⟩)) (below_size bb_)); replace HO262 := Aside0.mk (Kd.N_elder' (by (with_reducible repeat (first | apply Kd.N_alloc | apply Kd.N_drewN | apply Kd.N_drew)); exact (Kd.N_mono (Kd.N_far (p := ⟨gb267, 1, none⟩) (Kd.N_far (p := ⟨gb267, 0, none⟩) (Kd.N_mono HO262.out (fun k_ hk => (⟨hk, hk.2⟩ : _ ∧ k_ ≠ gb267))) (fun _ hk => hk.2) (.int .i64 t263)) (fun _ hk => hk.2) (.slice Ao23 t264.length co23)) (fun _ h_ => h_.1))) (Kd.S_base ho0) hb); replace HO266 := Aside0.mk (Kd.V_elder' (by (with_reducible repeat (first | apply Kd.V_alloc | apply Kd.V_drewN | apply Kd.V_drew)); exact (Kd.V_mono (Kd.V_far (p := ⟨gb267, 1, none⟩) (Kd.V_far (p := ⟨gb267, 0, none⟩) (Kd.V_mono HO266.out (fun k_ hk => (⟨hk, hk.2⟩ : _ ∧ k_ ≠ gb267))) (fun _ hk => hk.2) (.int .i64 t263)) (fun _ hk => hk.2) (.slice Ao23 t264.length co23)) (fun _ h_ => h_.1))) (Kd.S_base ho0) hb); replace BK267 := Aside0.mk (blk_below (g := gb267) (o := .cells #[.int .i64 t263, .slice Ao23 t264.length co23] 40 (0, 0)) (bp2_ (bkx_ BK267.out)) hb); replace HB := bs_ hb; (try clear hb); (try clear hb2); (try clear hk); (try clear hi); (try clear ho0); obtain ⟨Ao25, co25, eo25⟩ := Kd.N_slice HO270.out; subst eo25) | ((with_reducible refine gate_callee (f := 18) rfl ?_); refine gsL_ (some 26) Try.func18 #[.int .i64 a0, .slice Ao25 t268.length co25] ?_; (with_reducible refine (impl_BagOf.calls k a0 (fun k_ => (some k_ ≠ (.slice Ao19 t260.length co19 : Value).ownBlock ∧ k_ ≠ gb267)) _ _ t268 t271 t272 _ ?side1 A9.out).mono ?_); (case side1 => exact Kd.N_V (HO270.out)); rintro e w26 ⟨v273, rfl, ho0, hb⟩; refine ⟨_, rfl, ?_⟩; obtain ⟨nN, gN0, gle, gXB, gX0, gX1, gN1⟩ : ∃ nN : Nat, Aside0 (nN ≤ w26.heap.size) ∧ Aside0 (wX.heap.size ≤ nN) ∧ Aside0 (Below wX.heap.size wX w26) ∧ Aside0 (Kd.V k74 74 w26 w.heap.size (fun k_ => k_ < wX.heap.size ∧ k_ ≠ gb267) (.slice Ao23 t264.length co23) t264) ∧ Aside0 (Kd.S (Kd.slice 25 k25) 70 w26 wX.heap.size (fun k_ => k_ < nN) (.slice Ao25 t268.length co25) t268) ∧ Aside0 (Kd.S k74 74 w26 wX.heap.size (fun k_ => nN ≤ k_) v273 t272) := ⟨_, ⟨below_size hb⟩, ⟨below_size (bn_ fXB.out)⟩, ⟨below_step (bn_ fXB.out) hb⟩, ⟨Kd.V_below (by (with_reducible repeat (first | apply Kd.V_alloc | apply Kd.V_drewN | apply Kd.V_drew)); exact fX0.out) hb⟩, ⟨Kd.S_mono (Kd.S_old (sk_ fX1.out) hb) (fun _ h_ => h_.2)⟩, ⟨Kd.S_lower (Kd.S_mono (Kd.S_bound ho0) (fun _ h_ => h_.2.1)) (below_size (bn_ fXB.out))⟩⟩; clear fXB fX0 fX1; have fQ := Aside0.mk (Below.refl w26.heap.size w26); have ho1 := Kd.S_N (Kd.S_mono (Kd.S_bound ho0) (fun k_ h_ => (Or.inr h_.2.1 : (some k_ ≠ (.slice Ao19 t260.length co19 : Value).ownBlock ∧ k_ ≠ gb267) ∨ _))); have HO274 := Aside0.mk (Kd.N_lower (Kd.N_mono (ok' := fun k_ => some k_ ≠ (.slice Ao19 t260.length co19 : Value).ownBlock ∧ k_ ≠ gb267) ho1 (fun k_ hk_ => ⟨Or.elim hk_ (fun hs_ => hs_.1) (fun hn_ => (Kd.fresh' (Kd.N_lt (by (with_reducible repeat (first | apply Kd.N_alloc | apply Kd.N_drewN | apply Kd.N_drew)); exact HO262.out)) k_ hn_)), Or.elim hk_ (fun hs_ => hs_.2) (fun hn_ => (Kd.freshB (g := gb267) (o := .cells #[.int .i64 t263, .slice Ao23 t264.length co23] 40 (0, 0)) (bkx_ BK267.out) k_ hn_))⟩)) (below_size bb_)); replace HO262 := Aside0.mk (Kd.N_elder' (by (with_reducible repeat (first | apply Kd.N_alloc | apply Kd.N_drewN | apply Kd.N_drew)); exact HO262.out) (Kd.N_base ho1) hb); replace HO266 := Aside0.mk (Kd.V_elder' (by (with_reducible repeat (first | apply Kd.V_alloc | apply Kd.V_drewN | apply Kd.V_drew)); exact HO266.out) (Kd.N_base ho1) hb); replace HO270 := Aside0.mk (Kd.N_elder' (by (with_reducible repeat (first | apply Kd.N_alloc | apply Kd.N_drewN | apply Kd.N_drew)); exact HO270.out) (Kd.N_base ho1) hb); replace BK267 := bkb_ BK267 hb; replace HB := bs_ hb; (try clear hb); (try clear hb2); (try clear hk); (try clear hi); (try clear ho1); (try clear ho0)) | ((with_reducible refine gate_dst (N := 8) rfl ?_); refine bx_ 8 #[.int .i64 0, .slice none 0 0] 40 ?_; intro gb275 hg w27 hbox hb; have BK275 := Aside0.mk (hbox); have GW275 := gw_ hg; have GE275 := gw_ hg; have NB267_275 := nl_ hg BK267; have NB275_267 := ng_ hg BK267; have fg2 := Aside0.mk (show ¬ gb275 < w26.heap.size from by rw [hg]; exact Nat.not_lt_of_le (below_size (bn_ fQ.out))); replace fQ := Aside0.mk (below_step (bn_ fQ.out) hb); replace HO262 := Aside0.mk (Kd.N_below (Kd.N_elderB (by (with_reducible repeat (first | apply Kd.N_alloc | apply Kd.N_drewN | apply Kd.N_drew)); exact HO262.out) gb275 (Nat.le_of_eq hg.symm)) hb); replace HO266 := Aside0.mk (Kd.V_below (Kd.V_elderB (by (with_reducible repeat (first | apply Kd.V_alloc | apply Kd.V_drewN | apply Kd.V_drew)); exact HO266.out) gb275 (Nat.le_of_eq hg.symm)) hb); replace HO270 := Aside0.mk (Kd.N_below (Kd.N_elderB (by (with_reducible repeat (first | apply Kd.N_alloc | apply Kd.N_drewN | apply Kd.N_drew)); exact HO270.out) gb275 (Nat.le_of_eq hg.symm)) hb); replace HO274 := Aside0.mk (Kd.N_below (Kd.N_elderB (by (with_reducible repeat (first | apply Kd.N_alloc | apply Kd.N_drewN | apply Kd.N_drew)); exact HO274.out) gb275 (Nat.le_of_eq hg.symm)) hb); replace BK267 := bkb_ BK267 hb; replace HB := bs_ hb; clear hb hbox hg; have hnb28 := NB275_267.out; have hnc28 := NB267_275.out; obtain ⟨hcz29_0, hcz29_1, hfz29_0, hfz29_1⟩ := b2_ BK275; obtain ⟨Ao30, co30, eo30⟩ := Kd.N_slice HO274.out; subst eo30; obtain ⟨hcz31_0, hcz31_1, hfz31_0, hfz31_1⟩ := b2_ BK267) | ((with_reducible refine gate_callee (f := 19) rfl ?_); refine gsL_ (some 29) Try.func19 #[.agg #[.int .i64 t271, .slice Ao30 t272.length co30], .agg #[.int .i64 t263, .slice Ao23 t264.length co23]] ?_; (with_reducible refine (laws_eqBag.calls k t271 _ _ t272 t263 _ _ t264 true _ ?side1 ?side2 ?side3 ?side4 A10.out).mono ?_); (case side1 => refine (Kd.N_reads' (e := 74) (base := w.heap.size) (ok := fun k_ => ((some k_ ≠ (.slice Ao19 t260.length co19 : Value).ownBlock ∧ k_ ≠ gb267) ∧ k_ ≠ gb275)) (n := t272.length) (c := co30) ?_).2.2; exact (by (with_reducible repeat (first | apply Kd.N_alloc | apply Kd.N_drewN | apply Kd.N_drew)); exact (Kd.N_mono (Kd.N_far (p := ⟨gb275, 1, none⟩) (Kd.N_far (p := ⟨gb275, 0, none⟩) (Kd.N_mono HO274.out (fun k_ hk => (⟨hk, hk.2⟩ : _ ∧ k_ ≠ gb275))) (fun _ hk => hk.2) (.int .i64 t271)) (fun _ hk => hk.2) (.slice Ao30 t272.length co30)) (fun _ h_ => h_.1)))); (case side2 => exact (Kd.N_reads' HO274.out).2.1); (case side3 => refine (Kd.V_reads' (e := 74) (base := w.heap.size) (ok := fun k_ => ((((some k_ ≠ (.slice Ao19 t260.length co19 : Value).ownBlock ∧ k_ ≠ gb267) ∧ some k_ ≠ (.slice Ao25 t268.length co25 : Value).ownBlock) ∧ some k_ ≠ (.slice Ao30 t272.length co30 : Value).ownBlock) ∧ k_ ≠ gb275)) (n := t264.length) (c := co23) ?_).2.2; exact (by (with_reducible repeat (first | apply Kd.V_alloc | apply Kd.V_drewN | apply Kd.V_drew)); exact (Kd.V_mono (Kd.V_far (p := ⟨gb275, 1, none⟩) (Kd.V_far (p := ⟨gb275, 0, none⟩) (Kd.V_mono HO266.out (fun k_ hk => (⟨hk, hk.2⟩ : _ ∧ k_ ≠ gb275))) (fun _ hk => hk.2) (.int .i64 t271)) (fun _ hk => hk.2) (.slice Ao30 t272.length co30)) (fun _ h_ => h_.1)))); (case side4 => exact (Kd.V_reads' HO266.out).2.1); rintro e w32 ⟨rfl, hb⟩; refine ⟨_, rfl, ?_⟩; replace fQ := Aside0.mk (below_step (bn_ (below_set (below_set fQ.out (Nat.le_of_not_lt fg2.out)) (Nat.le_of_not_lt fg2.out))) hb); replace HO262 := Aside0.mk (Kd.N_below (by (with_reducible repeat (first | apply Kd.N_alloc | apply Kd.N_drewN | apply Kd.N_drew)); exact (Kd.N_mono (Kd.N_far (p := ⟨gb275, 1, none⟩) (Kd.N_far (p := ⟨gb275, 0, none⟩) (Kd.N_mono HO262.out (fun k_ hk => (⟨hk, hk.2⟩ : _ ∧ k_ ≠ gb275))) (fun _ hk => hk.2) (.int .i64 t271)) (fun _ hk => hk.2) (.slice Ao30 t272.length co30)) (fun _ h_ => h_.1))) hb); replace HO266 := Aside0.mk (Kd.V_below (by (with_reducible repeat (first | apply Kd.V_alloc | apply Kd.V_drewN | apply Kd.V_drew)); exact (Kd.V_mono (Kd.V_far (p := ⟨gb275, 1, none⟩) (Kd.V_far (p := ⟨gb275, 0, none⟩) (Kd.V_mono HO266.out (fun k_ hk => (⟨hk, hk.2⟩ : _ ∧ k_ ≠ gb275))) (fun _ hk => hk.2) (.int .i64 t271)) (fun _ hk => hk.2) (.slice Ao30 t272.length co30)) (fun _ h_ => h_.1))) hb); replace HO270 := Aside0.mk (Kd.N_below (by (with_reducible repeat (first | apply Kd.N_alloc | apply Kd.N_drewN | apply Kd.N_drew)); exact (Kd.N_mono (Kd.N_far (p := ⟨gb275, 1, none⟩) (Kd.N_far (p := ⟨gb275, 0, none⟩) (Kd.N_mono HO270.out (fun k_ hk => (⟨hk, hk.2⟩ : _ ∧ k_ ≠ gb275))) (fun _ hk => hk.2) (.int .i64 t271)) (fun _ hk => hk.2) (.slice Ao30 t272.length co30)) (fun _ h_ => h_.1))) hb); replace HO274 := Aside0.mk (Kd.N_below (by (with_reducible repeat (first | apply Kd.N_alloc | apply Kd.N_drewN | apply Kd.N_drew)); exact (Kd.N_mono (Kd.N_far (p := ⟨gb275, 1, none⟩) (Kd.N_far (p := ⟨gb275, 0, none⟩) (Kd.N_mono HO274.out (fun k_ hk => (⟨hk, hk.2⟩ : _ ∧ k_ ≠ gb275))) (fun _ hk => hk.2) (.int .i64 t271)) (fun _ hk => hk.2) (.slice Ao30 t272.length co30)) (fun _ h_ => h_.1))) hb); replace BK267 := Aside0.mk (blk_below (g := gb267) (o := .cells #[.int .i64 t263, .slice Ao23 t264.length co23] 40 (0, 0)) (bf2_ NB267_275 (bkx_ BK267.out)) hb); replace BK275 := Aside0.mk (blk_below (g := gb275) (o := .cells #[.int .i64 t271, .slice Ao30 t272.length co30] 40 (0, 0)) (bp2_ (bkx_ BK275.out)) hb); replace HB := bs_ hb; (try clear hb); (try clear hb2); (try clear hk); (try clear hi)) | ((with_reducible refine gate_callee (f := 17) rfl ?_); refine gsL_ (some 33) Try.func17 #[.slice A1 l1.length c1] ?_; (with_reducible refine (laws_toValueSS.calls k _ _ l1 t277 _ ?side1 ?side2 A12.out).mono ?_); (case side1 => exact ck_ (Kd.C_below HR1.out HB.out)); (case side2 => exact HC1.out); rintro e w33 ⟨v278, rfl, ho0, hb⟩; refine ⟨_, rfl, ?_⟩; replace fQ := Aside0.mk (below_step (bn_ fQ.out) hb); have HO279 := Aside0.mk (Kd.N_lower (Kd.N_mono (ok' := fun k_ => some k_ ≠ (.slice Ao19 t260.length co19 : Value).ownBlock ∧ some k_ ≠ (.slice Ao25 t268.length co25 : Value).ownBlock ∧ some k_ ≠ (.slice Ao30 t272.length co30 : Value).ownBlock ∧ k_ ≠ gb267 ∧ k_ ≠ gb275) (Kd.S_N (Kd.S_bound ho0)) (fun k_ hk_ => ⟨(Kd.fresh' (Kd.N_lt (by (with_reducible repeat (first | apply Kd.N_alloc | apply Kd.N_drewN | apply Kd.N_drew)); exact HO262.out)) k_ hk_.2.1), (Kd.fresh' (Kd.N_lt (by (with_reducible repeat (first | apply Kd.N_alloc | apply Kd.N_drewN | apply Kd.N_drew)); exact HO270.out)) k_ hk_.2.1), (Kd.fresh' (Kd.N_lt (by (with_reducible repeat (first | apply Kd.N_alloc | apply Kd.N_drewN | apply Kd.N_drew)); exact HO274.out)) k_ hk_.2.1), (Kd.freshB (g := gb267) (o := .cells #[.int .i64 t263, .slice Ao23 t264.length co23] 40 (0, 0)) (bkx_ BK267.out) k_ hk_.2.1), (Kd.freshB (g := gb275) (o := .cells #[.int .i64 t271, .slice Ao30 t272.length co30] 40 (0, 0)) (bkx_ BK275.out) k_ hk_.2.1)⟩)) (below_size bb_)); replace HO262 := Aside0.mk (Kd.N_elder' (by (with_reducible repeat (first | apply Kd.N_alloc | apply Kd.N_drewN | apply Kd.N_drew)); exact HO262.out) (Kd.S_base ho0) hb); replace HO266 := Aside0.mk (Kd.V_elder' (by (with_reducible repeat (first | apply Kd.V_alloc | apply Kd.V_drewN | apply Kd.V_drew)); exact HO266.out) (Kd.S_base ho0) hb); replace HO270 := Aside0.mk (Kd.N_elder' (by (with_reducible repeat (first | apply Kd.N_alloc | apply Kd.N_drewN | apply Kd.N_drew)); exact HO270.out) (Kd.S_base ho0) hb); replace HO274 := Aside0.mk (Kd.N_elder' (by (with_reducible repeat (first | apply Kd.N_alloc | apply Kd.N_drewN | apply Kd.N_drew)); exact HO274.out) (Kd.S_base ho0) hb); replace BK267 := bkb_ BK267 hb; replace BK275 := bkb_ BK275 hb; replace HB := bs_ hb; (try clear hb); (try clear hb2); (try clear hk); (try clear hi); (try clear ho0); obtain ⟨Ao34, co34, eo34⟩ := Kd.N_slice HO279.out; subst eo34) | ((with_reducible refine gate_callee (f := 20) rfl ?_); refine gsL_ (some 34) Try.func20 #[.slice Ao25 t268.length co25, .slice Ao34 t277.length co34] ?_; (with_reducible refine (laws_eqValueSS.calls k _ _ t268 _ _ t277 true _ ?side1 ?side2 ?side3 ?side4 A13.out).mono ?_); (case side1 => exact ck_ (Kd.N_reads' HO270.out).2.2); (case side2 => exact (Kd.N_reads' HO270.out).2.1); (case side3 => exact ck_ (Kd.N_reads' HO279.out).2.2); (case side4 => exact (Kd.N_reads' HO279.out).2.1); rintro e w35 ⟨rfl, hb⟩; refine ⟨_, rfl, ?_⟩; replace fQ := Aside0.mk (below_step (bn_ fQ.out) hb); replace HO262 := Aside0.mk (Kd.N_below (by (with_reducible repeat (first | apply Kd.N_alloc | apply Kd.N_drewN | apply Kd.N_drew)); exact HO262.out) hb); replace HO266 := Aside0.mk (Kd.V_below (by (with_reducible repeat (first | apply Kd.V_alloc | apply Kd.V_drewN | apply Kd.V_drew)); exact HO266.out) hb); replace HO270 := Aside0.mk (Kd.N_below (by (with_reducible repeat (first | apply Kd.N_alloc | apply Kd.N_drewN | apply Kd.N_drew)); exact HO270.out) hb); replace HO274 := Aside0.mk (Kd.N_below (by (with_reducible repeat (first | apply Kd.N_alloc | apply Kd.N_drewN | apply Kd.N_drew)); exact HO274.out) hb); replace HO279 := Aside0.mk (Kd.N_below (by (with_reducible repeat (first | apply Kd.N_alloc | apply Kd.N_drewN | apply Kd.N_drew)); exact HO279.out) hb); replace BK267 := bkb_ BK267 hb; replace BK275 := bkb_ BK275 hb; replace HB := bs_ hb; (try clear hb); (try clear hb2); (try clear hk); (try clear hi)) | ((with_reducible refine gate_callee (f := 21) rfl ?_); refine gsL_ (some 38) Try.func21 #[.slice Ao25 t268.length co25, .int .i64 1] ?_; (with_reducible refine (laws_markValueSS.calls k (fun k_ => wX.heap.size ≤ k_ ∧ k_ < nN) _ t268 1 t281 m268 wX _ (below_step gXB.out (bn_ fQ.out)) (Kd.S_mono (Kd.S_bound (Kd.S_below gX1.out (bn_ fQ.out))) (fun _ h_ => ⟨h_.2.1, h_.1⟩)) A15.out).mono ?_); rintro e w36 ⟨rfl, hS2, hB2, hK2⟩; refine ⟨_, rfl, ?_⟩; have n0_ := Aside0.mk (Kd.V_kept (Kd.V_below gX0.out (bn_ fQ.out)) hK2 (fun k_ hk h_ => Nat.not_lt_of_le h_.1 hk.1)); have n1_ := Aside0.mk (Kd.S_kept (Kd.S_below gN1.out (bn_ fQ.out)) hK2 (fun k_ hk h_ => Nat.not_lt_of_le hk h_.2)); have n2_ := Aside0.mk (blk_kept (g := gb267) (bkx_ BK267.out) hK2 (fun h_ => Nat.not_lt_of_le h_.1 fg.out)); have n3_ := Aside0.mk (blk_kept (g := gb275) (bkx_ BK275.out) hK2 (fun h_ => Nat.not_lt_of_le (Nat.le_trans gN0.out (Nat.le_of_not_lt fg2.out)) h_.2)); have n4_ := Aside0.mk (below_step fw.out hB2); have n5_ := Aside0.mk hB2; have gn := Aside0.mk (Nat.le_trans gN0.out (Nat.le_of_not_lt fg2.out)); clear HO262 HO266 HO270 HO274 HO279 BK267 BK275 HB gXB gX0 gX1 gN1 fQ gN0 fg2 hS2 hB2 hK2; have HO266 := n0_; have HO274 := n1_; have BK267 := n2_; have BK275 := n3_; have HB := n4_; have gXB := n5_; clear n0_ n1_ n2_ n3_ n4_ n5_))
    (try simp only [Act.put, List.setIfInBounds_toArray, List.set_cons_zero, List.set_cons_succ])
    go_cut [46] (fun v46 wc => ∃ (kq : Nat) (x46_15 : Bool) (wX : World) (nN : Nat), v46 = .bool x46_15 ∧ Aside0 (laws_FnExactBagOf.j0 kq a0 l1 x46_15 t263 t264 t271 t272 = some r) ∧ Aside0 (kq ≤ k) ∧ Aside0 (Kd.V k74 74 wc w.heap.size (fun k_ => k_ < wX.heap.size ∧ k_ ≠ gb267) (.slice Ao23 t264.length co23) t264) ∧ Aside0 (Kd.S k74 74 wc wX.heap.size (fun k_ => nN ≤ k_) (.slice Ao30 t272.length co30) t272) ∧ Aside0 (wc.heap[gb267]? = some (.cells #[.int .i64 t263, (.slice Ao23 t264.length co23)] 40 (0, 0))) ∧ Aside0 (wc.heap[gb275]? = some (.cells #[.int .i64 t271, (.slice Ao30 t272.length co30)] 40 (0, 0))) ∧ Aside0 (Below w.heap.size w wc) ∧ Aside0 (Below w.heap.size w wX) ∧ Aside0 (gb267 < wX.heap.size) ∧ Aside0 (wX.heap.size ≤ nN) ∧ Aside0 (nN ≤ gb275) ∧ Aside0 (Below wX.heap.size wX wc))
    case first =>
     have H := HC16.out
     clear HC16
     by_cases c37 : t281 < 0
     ·rw [if_pos c37] at H
      exact absurd H (by simp)
     ·rw [if_neg c37] at H
      have c37b0 : decide (t281 < 0) = false := decide_eq_false c37
      clear c37
      (first | rw [c37b0] | (simp only [i64_w, i32_w]; rw [c37b0]) | skip)
      replace H := Option.bind_eq_some_iff.mp H
      obtain ⟨t282, A380, H⟩ := H
      replace H : (laws_FnExactBagOf.j0 k a0 l1 (!t282) t263 t264 t271 t272) = some r := H
      have A38 := Aside0.mk A380
      clear A380
      have H' := Aside0.mk H
      clear H
      have hnb39 := NB275_267.out
      have hnc39 := NB267_275.out
      obtain ⟨hcz40_0, hcz40_1, hfz40_0, hfz40_1⟩ := b2_ BK275
      obtain ⟨hcz41_0, hcz41_1, hfz41_0, hfz41_1⟩ := b2_ BK267
      go_wp2_with (first | (go_at_call 19; (with_reducible refine (laws_eqBag.calls k t271 _ _ t272 t263 _ _ t264 t282 _ ?side1 ?side2 ?side3 ?side4 A38.out).mono ?_); (case side1 => exact ck_ (Kd.S_reads' HO274.out).2.2); (case side2 => exact (Kd.S_reads' HO274.out).2.1); (case side3 => exact ck_ (Kd.V_reads' HO266.out).2.2); (case side4 => exact (Kd.V_reads' HO266.out).2.1); rintro e w42 ⟨rfl, hb⟩; have n0_ := Aside0.mk (Kd.V_below (by (with_reducible repeat (first | apply Kd.V_alloc | apply Kd.V_drewN | apply Kd.V_drew)); exact HO266.out) hb); have n1_ := Aside0.mk (Kd.S_below (sk_ HO274.out) hb); have n2_ := bkb_ BK267 hb; have n3_ := bkb_ BK275 hb; have n4_ := bs_ hb; have n5_ := Aside0.mk (below_step (bn_ gXB.out) hb); clear HO266 HO274 BK267 BK275 HB gXB; have HO266 := n0_; have HO274 := n1_; have BK267 := n2_; have BK275 := n3_; have HB := n4_; have gXB := n5_; clear n0_ n1_ n2_ n3_ n4_ n5_; (try clear hb)))
      go_meet
      case rel => exact ⟨_, (!t282), wX, nN, rs_, H', ⟨by first | omega | exact Nat.le_refl _⟩, ⟨(by (with_reducible repeat (first | apply Kd.V_alloc | apply Kd.V_drewN | apply Kd.V_drew)); exact HO266.out)⟩, ⟨sk_ HO274.out⟩, ⟨bkx_ BK267.out⟩, ⟨bkx_ BK275.out⟩, ⟨bb_⟩, fw, fg, gle, gn, ⟨bn_ gXB.out⟩⟩
    case rest =>
     clear HC16
     try clear c1
     try clear c2
     try clear p2
     try clear c3
     try clear c4
     try clear c4b0
     try clear c11
     try clear c14
     try clear c15
     try clear c16
     try clear c17
     try clear c18
     try clear c19
     try clear c20
     try clear c28
     try clear c37
     try clear c37b0
     try clear c39
     try clear hcz22_0
     try clear hcz22_1
     try clear hcz29_0
     try clear hcz29_1
     try clear hcz31_0
     try clear hcz31_1
     try clear hcz40_0
     try clear hcz40_1
     try clear hcz41_0
     try clear hcz41_1
     try clear hfz22_0
     try clear hfz22_1
     try clear hfz29_0
     try clear hfz29_1
     try clear hfz31_0
     try clear hfz31_1
     try clear hfz40_0
     try clear hfz40_1
     try clear hfz41_0
     try clear hfz41_1
     obtain ⟨kq, x46_15, wX, nN, rfl, HA, HJ15, HO_268001, HO_276001, BK267, BK275, HB, fw, fg, gle, gn, gXB⟩ := hcut
     cases kq with
     | zero => exact absurd HA.out (by simp [laws_FnExactBagOf.j0])
     | succ kj15 =>
      have H := HA.out
      clear HA
      simp only [laws_FnExactBagOf.j0] at H
      by_cases c43 : x46_15 = true
      ·subst c43
       have H1 : (none) = some r := by rw [if_pos rfl] at H; exact H
       clear H
       have H := H1
       clear H1
       exact absurd H (by simp)
      ·replace c43 := Bool.eq_false_iff.mpr c43
       subst c43
       have H1 : ((laws_markBag.f kj15 t271 t272 1).bind fun bt283 => ((laws_heldBag.f kj15 t271 bt283.2 1).bind fun t284 => (if t284 < 0 then (none) else (if t284 = bt283.1 then ((laws_toValueSS.f kj15 l1).bind fun t285 => ((impl_BagOf.f kj15 a0 t285).bind fun bt288 => ((laws_eqBag.f kj15 bt288.1 bt288.2 t263 t264).bind fun t293 => (if t293 = true then ((laws_heldBag.f kj15 t271 bt283.2 1).bind fun t294 => (if t294 < 0 then (none) else (if t294 = bt283.1 then (some true) else (none)))) else (none))))) else (none))))) = some r := by rw [if_neg (show ¬ (false = true) by decide)] at H; exact H
       clear H
       have H := H1
       clear H1
       replace H := Option.bind_eq_some_iff.mp H
       obtain ⟨⟨t283, m272⟩, A440, H⟩ := H
       replace H : ((laws_heldBag.f kj15 t271 m272 1).bind fun t284 => (if t284 < 0 then (none) else (if t284 = t283 then ((laws_toValueSS.f kj15 l1).bind fun t285 => ((impl_BagOf.f kj15 a0 t285).bind fun bt288 => ((laws_eqBag.f kj15 bt288.1 bt288.2 t263 t264).bind fun t293 => (if t293 = true then ((laws_heldBag.f kj15 t271 m272 1).bind fun t294 => (if t294 < 0 then (none) else (if t294 = t283 then (some true) else (none)))) else (none))))) else (none)))) = some r := H
       have A44 := Aside0.mk A440
       clear A440
       replace H := Option.bind_eq_some_iff.mp H
       obtain ⟨t284, A450, H⟩ := H
       replace H : (if t284 < 0 then (none) else (if t284 = t283 then ((laws_toValueSS.f kj15 l1).bind fun t285 => ((impl_BagOf.f kj15 a0 t285).bind fun bt288 => ((laws_eqBag.f kj15 bt288.1 bt288.2 t263 t264).bind fun t293 => (if t293 = true then ((laws_heldBag.f kj15 t271 m272 1).bind fun t294 => (if t294 < 0 then (none) else (if t294 = t283 then (some true) else (none)))) else (none))))) else (none))) = some r := H
       have A45 := Aside0.mk A450
       clear A450
       by_cases c46 : t284 < 0
       ·rw [if_pos c46] at H
        exact absurd H (by simp)
       ·rw [if_neg c46] at H
        have c46b0 : decide (t284 < 0) = false := decide_eq_false c46
        clear c46
        by_cases c47 : t284 = t283
        ·rw [if_pos c47] at H
         have c47b0 : (t284 == t283) = true := beq_iff_eq.mpr c47
         have c47b1 : (t284 != t283) = false := bne_eq_false_iff_eq.mpr c47
         clear c47
         replace H := Option.bind_eq_some_iff.mp H
         obtain ⟨t285, A480, H⟩ := H
         replace H : ((impl_BagOf.f kj15 a0 t285).bind fun bt288 => ((laws_eqBag.f kj15 bt288.1 bt288.2 t263 t264).bind fun t293 => (if t293 = true then ((laws_heldBag.f kj15 t271 m272 1).bind fun t294 => (if t294 < 0 then (none) else (if t294 = t283 then (some true) else (none)))) else (none)))) = some r := H
         have A48 := Aside0.mk A480
         clear A480
         replace H := Option.bind_eq_some_iff.mp H
         obtain ⟨⟨t288, t289⟩, A490, H⟩ := H
         replace H : ((laws_eqBag.f kj15 t288 t289 t263 t264).bind fun t293 => (if t293 = true then ((laws_heldBag.f kj15 t271 m272 1).bind fun t294 => (if t294 < 0 then (none) else (if t294 = t283 then (some true) else (none)))) else (none))) = some r := H
         have A49 := Aside0.mk A490
         clear A490
         replace H := Option.bind_eq_some_iff.mp H
         obtain ⟨t293, A500, H⟩ := H
         replace H : (if t293 = true then ((laws_heldBag.f kj15 t271 m272 1).bind fun t294 => (if t294 < 0 then (none) else (if t294 = t283 then (some true) else (none)))) else (none)) = some r := H
         have A50 := Aside0.mk A500
         clear A500
         by_cases c51 : t293 = true
         ·subst c51
          have H1 : ((laws_heldBag.f kj15 t271 m272 1).bind fun t294 => (if t294 < 0 then (none) else (if t294 = t283 then (some true) else (none)))) = some r := by rw [if_pos rfl] at H; exact H
          clear H
          have H := H1
          clear H1
          replace H := Option.bind_eq_some_iff.mp H
          obtain ⟨t294, A520, H⟩ := H
          replace H : (if t294 < 0 then (none) else (if t294 = t283 then (some true) else (none))) = some r := H
          have A52 := Aside0.mk A520
          clear A520
          by_cases c53 : t294 < 0
          ·rw [if_pos c53] at H
           exact absurd H (by simp)
          ·rw [if_neg c53] at H
           have c53b0 : decide (t294 < 0) = false := decide_eq_false c53
           clear c53
           by_cases c54 : t294 = t283
           ·rw [if_pos c54] at H
            have c54b0 : (t294 == t283) = true := beq_iff_eq.mpr c54
            have c54b1 : (t294 != t283) = false := bne_eq_false_iff_eq.mpr c54
            clear c54
            obtain rfl := Option.some.inj H
            have hnb55 := NB275_267.out
            have hnc55 := NB267_275.out
            obtain ⟨hcz56_0, hcz56_1, hfz56_0, hfz56_1⟩ := b2_ BK275
            go_wp2_with (first | ((with_reducible refine gate_callee (f := 22) rfl ?_); refine gsL_ (some 49) Try.func22 #[.agg #[.int .i64 t271, .slice Ao30 t272.length co30], .int .i64 1] ?_; (with_reducible refine (laws_markBag.calls kj15 (fun k_ => nN ≤ k_ ∧ k_ ≠ gb275) t271 _ _ _ t272 1 t283 m272 wX _ (bn_ gXB.out) (Kd.S_mono (sk_ (Kd.S_types HO_276001.out BK275.out (by decide))) (fun _ h_ => h_)) A44.out).mono ?_); rintro e w57 ⟨rfl, hS2, hB2, hK2⟩; refine ⟨_, rfl, ?_⟩; have hl_ := (Kd.S_reads' hS2).1; have n1_ := Aside0.mk (blk_kept (g := gb267) (bkx_ BK267.out) hK2 (fun h_ => Nat.not_lt_of_le (Nat.le_trans gle.out h_.1) fg.out)); have n2_ := Aside0.mk (blk_kept (g := gb275) (bkx_ BK275.out) hK2 (fun h_ => h_.2 rfl)); have n3_ := Aside0.mk (below_step fw.out hB2); have n0_ := Aside0.mk (Kd.V_kept (ok := fun k_ => k_ < wX.heap.size ∧ k_ ≠ gb267) (by (with_reducible repeat (first | apply Kd.V_alloc | apply Kd.V_drewN | apply Kd.V_drew)); exact HO_268001.out) hK2 (fun k_ hk h_ => Nat.not_lt_of_le (Nat.le_trans gle.out h_.1) hk.1)); rw [hl_] at n2_ hS2; clear HO_268001 HO_276001 BK267 BK275 HB; have HO_268001 := Aside0.mk (show Kd.V k74 74 w57 w.heap.size (fun k_ => some k_ ≠ ((.slice Ao30 m272.length co30) : Value).ownBlock ∧ k_ ≠ gb267 ∧ k_ ≠ gb275) (.slice Ao23 t264.length co23) t264 from Kd.V_mono n0_.out (fun k_ h_ => ⟨fun e_ => Nat.not_lt_of_le (Kd.S_base hS2 k_ e_.symm) h_.1, h_.2, fun e_ => Nat.not_lt_of_le (Nat.le_trans gle.out gn.out) (e_ ▸ h_.1)⟩)); have HO_276001 := Aside0.mk (show Kd.N k74 74 w57 w.heap.size (fun k_ => k_ ≠ gb267 ∧ k_ ≠ gb275) (.slice Ao30 m272.length co30) m272 from Kd.N_lower (Kd.N_mono (Kd.S_N (Kd.S_types (Kd.S_types hS2 n1_.out (by decide)) n2_.out (by decide))) (fun _ h_ => ⟨h_.1.2, h_.2⟩)) (below_size fw.out)); have BK267 := n1_; have BK275 := n2_; have HB := n3_; clear n0_ n1_ n2_ n3_ hS2 hB2 hK2 hl_; obtain ⟨hcz58_0, hcz58_1, hfz58_0, hfz58_1⟩ := b2_ BK275) | ((with_reducible refine gate_callee (f := 23) rfl ?_); refine gsL_ (some 52) Try.func23 #[.agg #[.int .i64 t271, .slice Ao30 m272.length co30], .int .i64 1] ?_; (with_reducible refine (laws_heldBag.calls kj15 t271 _ _ m272 1 t284 _ ?side1 ?side2 A45.out).mono ?_); (case side1 => exact ck_ (Kd.N_reads' HO_276001.out).2.2); (case side2 => exact (Kd.N_reads' HO_276001.out).2.1); rintro e w59 ⟨rfl, hb⟩; refine ⟨_, rfl, ?_⟩; replace HO_268001 := Aside0.mk (Kd.V_below (by (with_reducible repeat (first | apply Kd.V_alloc | apply Kd.V_drewN | apply Kd.V_drew)); exact HO_268001.out) hb); replace HO_276001 := Aside0.mk (Kd.N_below (by (with_reducible repeat (first | apply Kd.N_alloc | apply Kd.N_drewN | apply Kd.N_drew)); exact HO_276001.out) hb); replace BK267 := bkb_ BK267 hb; replace BK275 := bkb_ BK275 hb; replace HB := bs_ hb; (try clear hb); (try clear hb2); (try clear hk); (try clear hi)) | ((with_reducible refine gate_callee (f := 17) rfl ?_); refine gsL_ (some 60) Try.func17 #[.slice A1 l1.length c1] ?_; (with_reducible refine (laws_toValueSS.calls kj15 _ _ l1 t285 _ ?side1 ?side2 A48.out).mono ?_); (case side1 => exact ck_ (Kd.C_below HR1.out HB.out)); (case side2 => exact HC1.out); rintro e w60 ⟨v286, rfl, ho0, hb⟩; refine ⟨_, rfl, ?_⟩; have HO287 := Aside0.mk (Kd.N_lower (Kd.N_mono (ok' := fun k_ => some k_ ≠ (.slice Ao30 m272.length co30 : Value).ownBlock ∧ k_ ≠ gb267 ∧ k_ ≠ gb275) (Kd.S_N (Kd.S_bound ho0)) (fun k_ hk_ => ⟨(Kd.fresh' (Kd.N_lt (by (with_reducible repeat (first | apply Kd.N_alloc | apply Kd.N_drewN | apply Kd.N_drew)); exact HO_276001.out)) k_ hk_.2.1), (Kd.freshB (g := gb267) (o := .cells #[.int .i64 t263, .slice Ao23 t264.length co23] 40 (0, 0)) (bkx_ BK267.out) k_ hk_.2.1), (Kd.freshB (g := gb275) (o := .cells #[.int .i64 t271, .slice Ao30 m272.length co30] 40 (0, 0)) (bkx_ BK275.out) k_ hk_.2.1)⟩)) (below_size bb_)); replace HO_268001 := Aside0.mk (Kd.V_elder' (by (with_reducible repeat (first | apply Kd.V_alloc | apply Kd.V_drewN | apply Kd.V_drew)); exact HO_268001.out) (Kd.S_base ho0) hb); replace HO_276001 := Aside0.mk (Kd.N_elder' (by (with_reducible repeat (first | apply Kd.N_alloc | apply Kd.N_drewN | apply Kd.N_drew)); exact HO_276001.out) (Kd.S_base ho0) hb); replace BK267 := bkb_ BK267 hb; replace BK275 := bkb_ BK275 hb; replace HB := bs_ hb; (try clear hb); (try clear hb2); (try clear hk); (try clear hi); (try clear ho0); obtain ⟨Ao61, co61, eo61⟩ := Kd.N_slice HO287.out; subst eo61) | ((with_reducible refine gate_callee (f := 18) rfl ?_); refine gsL_ (some 61) Try.func18 #[.int .i64 a0, .slice Ao61 t285.length co61] ?_; (with_reducible refine (impl_BagOf.calls kj15 a0 (fun k_ => (some k_ ≠ (.slice Ao30 m272.length co30 : Value).ownBlock ∧ (k_ ≠ gb267 ∧ k_ ≠ gb275))) _ _ t285 t288 t289 _ ?side1 A49.out).mono ?_); (case side1 => exact Kd.N_V (HO287.out)); rintro e w62 ⟨v290, rfl, ho0, hb⟩; refine ⟨_, rfl, ?_⟩; have ho1 := Kd.S_N (Kd.S_mono (Kd.S_bound ho0) (fun k_ h_ => (Or.inr h_.2.1 : (some k_ ≠ (.slice Ao30 m272.length co30 : Value).ownBlock ∧ k_ ≠ gb267 ∧ k_ ≠ gb275) ∨ _))); have HO291 := Aside0.mk (Kd.N_lower (Kd.N_mono (ok' := fun k_ => some k_ ≠ (.slice Ao30 m272.length co30 : Value).ownBlock ∧ k_ ≠ gb267 ∧ k_ ≠ gb275) ho1 (fun k_ hk_ => ⟨Or.elim hk_ (fun hs_ => hs_.1) (fun hn_ => (Kd.fresh' (Kd.N_lt (by (with_reducible repeat (first | apply Kd.N_alloc | apply Kd.N_drewN | apply Kd.N_drew)); exact HO_276001.out)) k_ hn_)), Or.elim hk_ (fun hs_ => hs_.2.1) (fun hn_ => (Kd.freshB (g := gb267) (o := .cells #[.int .i64 t263, .slice Ao23 t264.length co23] 40 (0, 0)) (bkx_ BK267.out) k_ hn_)), Or.elim hk_ (fun hs_ => hs_.2.2) (fun hn_ => (Kd.freshB (g := gb275) (o := .cells #[.int .i64 t271, .slice Ao30 m272.length co30] 40 (0, 0)) (bkx_ BK275.out) k_ hn_))⟩)) (below_size bb_)); replace HO_268001 := Aside0.mk (Kd.V_elder' (by (with_reducible repeat (first | apply Kd.V_alloc | apply Kd.V_drewN | apply Kd.V_drew)); exact HO_268001.out) (Kd.N_base ho1) hb); replace HO_276001 := Aside0.mk (Kd.N_elder' (by (with_reducible repeat (first | apply Kd.N_alloc | apply Kd.N_drewN | apply Kd.N_drew)); exact HO_276001.out) (Kd.N_base ho1) hb); replace HO287 := Aside0.mk (Kd.N_elder' (by (with_reducible repeat (first | apply Kd.N_alloc | apply Kd.N_drewN | apply Kd.N_drew)); exact HO287.out) (Kd.N_base ho1) hb); replace BK267 := bkb_ BK267 hb; replace BK275 := bkb_ BK275 hb; replace HB := bs_ hb; (try clear hb); (try clear hb2); (try clear hk); (try clear hi); (try clear ho1); (try clear ho0)) | ((with_reducible refine gate_dst (N := 12) rfl ?_); refine bx_ 12 #[.int .i64 0, .slice none 0 0] 40 ?_; intro gb292 hg w63 hbox hb; have BK292 := Aside0.mk (hbox); have GW292 := gw_ hg; have GE292 := gw_ hg; have NB267_292 := nl_ hg BK267; have NB292_267 := ng_ hg BK267; have NB275_292 := nl_ hg BK275; have NB292_275 := ng_ hg BK275; replace HO_268001 := Aside0.mk (Kd.V_below (Kd.V_elderB (by (with_reducible repeat (first | apply Kd.V_alloc | apply Kd.V_drewN | apply Kd.V_drew)); exact HO_268001.out) gb292 (Nat.le_of_eq hg.symm)) hb); replace HO_276001 := Aside0.mk (Kd.N_below (Kd.N_elderB (by (with_reducible repeat (first | apply Kd.N_alloc | apply Kd.N_drewN | apply Kd.N_drew)); exact HO_276001.out) gb292 (Nat.le_of_eq hg.symm)) hb); replace HO287 := Aside0.mk (Kd.N_below (Kd.N_elderB (by (with_reducible repeat (first | apply Kd.N_alloc | apply Kd.N_drewN | apply Kd.N_drew)); exact HO287.out) gb292 (Nat.le_of_eq hg.symm)) hb); replace HO291 := Aside0.mk (Kd.N_below (Kd.N_elderB (by (with_reducible repeat (first | apply Kd.N_alloc | apply Kd.N_drewN | apply Kd.N_drew)); exact HO291.out) gb292 (Nat.le_of_eq hg.symm)) hb); replace BK267 := bkb_ BK267 hb; replace BK275 := bkb_ BK275 hb; replace HB := bs_ hb; clear hb hbox hg; have hnb64 := NB292_267.out; have hnc64 := NB267_292.out; have hnb65 := NB292_275.out; have hnc65 := NB275_292.out; obtain ⟨hcz66_0, hcz66_1, hfz66_0, hfz66_1⟩ := b2_ BK292; obtain ⟨Ao67, co67, eo67⟩ := Kd.N_slice HO291.out; subst eo67; obtain ⟨hcz68_0, hcz68_1, hfz68_0, hfz68_1⟩ := b2_ BK267) | ((with_reducible refine gate_callee (f := 19) rfl ?_); refine gsL_ (some 64) Try.func19 #[.agg #[.int .i64 t288, .slice Ao67 t289.length co67], .agg #[.int .i64 t263, .slice Ao23 t264.length co23]] ?_; (with_reducible refine (laws_eqBag.calls kj15 t288 _ _ t289 t263 _ _ t264 true _ ?side1 ?side2 ?side3 ?side4 A50.out).mono ?_); (case side1 => refine (Kd.N_reads' (e := 74) (base := w.heap.size) (ok := fun k_ => ((some k_ ≠ (.slice Ao30 m272.length co30 : Value).ownBlock ∧ (k_ ≠ gb267 ∧ k_ ≠ gb275)) ∧ k_ ≠ gb292)) (n := t289.length) (c := co67) ?_).2.2; exact (by (with_reducible repeat (first | apply Kd.N_alloc | apply Kd.N_drewN | apply Kd.N_drew)); exact (Kd.N_mono (Kd.N_far (p := ⟨gb292, 1, none⟩) (Kd.N_far (p := ⟨gb292, 0, none⟩) (Kd.N_mono HO291.out (fun k_ hk => (⟨hk, hk.2⟩ : _ ∧ k_ ≠ gb292))) (fun _ hk => hk.2) (.int .i64 t288)) (fun _ hk => hk.2) (.slice Ao67 t289.length co67)) (fun _ h_ => h_.1)))); (case side2 => exact (Kd.N_reads' HO291.out).2.1); (case side3 => refine (Kd.V_reads' (e := 74) (base := w.heap.size) (ok := fun k_ => ((((some k_ ≠ (.slice Ao30 m272.length co30 : Value).ownBlock ∧ (k_ ≠ gb267 ∧ k_ ≠ gb275)) ∧ some k_ ≠ (.slice Ao61 t285.length co61 : Value).ownBlock) ∧ some k_ ≠ (.slice Ao67 t289.length co67 : Value).ownBlock) ∧ k_ ≠ gb292)) (n := t264.length) (c := co23) ?_).2.2; exact (by (with_reducible repeat (first | apply Kd.V_alloc | apply Kd.V_drewN | apply Kd.V_drew)); exact (Kd.V_mono (Kd.V_far (p := ⟨gb292, 1, none⟩) (Kd.V_far (p := ⟨gb292, 0, none⟩) (Kd.V_mono HO_268001.out (fun k_ hk => (⟨hk, hk.2⟩ : _ ∧ k_ ≠ gb292))) (fun _ hk => hk.2) (.int .i64 t288)) (fun _ hk => hk.2) (.slice Ao67 t289.length co67)) (fun _ h_ => h_.1)))); (case side4 => exact (Kd.V_reads' HO_268001.out).2.1); rintro e w69 ⟨rfl, hb⟩; refine ⟨_, rfl, ?_⟩; replace HO_268001 := Aside0.mk (Kd.V_below (by (with_reducible repeat (first | apply Kd.V_alloc | apply Kd.V_drewN | apply Kd.V_drew)); exact (Kd.V_mono (Kd.V_far (p := ⟨gb292, 1, none⟩) (Kd.V_far (p := ⟨gb292, 0, none⟩) (Kd.V_mono HO_268001.out (fun k_ hk => (⟨hk, hk.2⟩ : _ ∧ k_ ≠ gb292))) (fun _ hk => hk.2) (.int .i64 t288)) (fun _ hk => hk.2) (.slice Ao67 t289.length co67)) (fun _ h_ => h_.1))) hb); replace HO_276001 := Aside0.mk (Kd.N_below (by (with_reducible repeat (first | apply Kd.N_alloc | apply Kd.N_drewN | apply Kd.N_drew)); exact (Kd.N_mono (Kd.N_far (p := ⟨gb292, 1, none⟩) (Kd.N_far (p := ⟨gb292, 0, none⟩) (Kd.N_mono HO_276001.out (fun k_ hk => (⟨hk, hk.2⟩ : _ ∧ k_ ≠ gb292))) (fun _ hk => hk.2) (.int .i64 t288)) (fun _ hk => hk.2) (.slice Ao67 t289.length co67)) (fun _ h_ => h_.1))) hb); replace HO287 := Aside0.mk (Kd.N_below (by (with_reducible repeat (first | apply Kd.N_alloc | apply Kd.N_drewN | apply Kd.N_drew)); exact (Kd.N_mono (Kd.N_far (p := ⟨gb292, 1, none⟩) (Kd.N_far (p := ⟨gb292, 0, none⟩) (Kd.N_mono HO287.out (fun k_ hk => (⟨hk, hk.2⟩ : _ ∧ k_ ≠ gb292))) (fun _ hk => hk.2) (.int .i64 t288)) (fun _ hk => hk.2) (.slice Ao67 t289.length co67)) (fun _ h_ => h_.1))) hb); replace HO291 := Aside0.mk (Kd.N_below (by (with_reducible repeat (first | apply Kd.N_alloc | apply Kd.N_drewN | apply Kd.N_drew)); exact (Kd.N_mono (Kd.N_far (p := ⟨gb292, 1, none⟩) (Kd.N_far (p := ⟨gb292, 0, none⟩) (Kd.N_mono HO291.out (fun k_ hk => (⟨hk, hk.2⟩ : _ ∧ k_ ≠ gb292))) (fun _ hk => hk.2) (.int .i64 t288)) (fun _ hk => hk.2) (.slice Ao67 t289.length co67)) (fun _ h_ => h_.1))) hb); replace BK267 := Aside0.mk (blk_below (g := gb267) (o := .cells #[.int .i64 t263, .slice Ao23 t264.length co23] 40 (0, 0)) (bf2_ NB267_292 (bkx_ BK267.out)) hb); replace BK275 := Aside0.mk (blk_below (g := gb275) (o := .cells #[.int .i64 t271, .slice Ao30 m272.length co30] 40 (0, 0)) (bf2_ NB275_292 (bkx_ BK275.out)) hb); replace BK292 := Aside0.mk (blk_below (g := gb292) (o := .cells #[.int .i64 t288, .slice Ao67 t289.length co67] 40 (0, 0)) (bp2_ (bkx_ BK292.out)) hb); replace HB := bs_ hb; (try clear hb); (try clear hb2); (try clear hk); (try clear hi); obtain ⟨hcz70_0, hcz70_1, hfz70_0, hfz70_1⟩ := b2_ BK275) | ((with_reducible refine gate_callee (f := 23) rfl ?_); refine gsL_ (some 68) Try.func23 #[.agg #[.int .i64 t271, .slice Ao30 m272.length co30], .int .i64 1] ?_; (with_reducible refine (laws_heldBag.calls kj15 t271 _ _ m272 1 t294 _ ?side1 ?side2 A52.out).mono ?_); (case side1 => exact ck_ (Kd.N_reads' HO_276001.out).2.2); (case side2 => exact (Kd.N_reads' HO_276001.out).2.1); rintro e w71 ⟨rfl, hb⟩; refine ⟨_, rfl, ?_⟩; replace HO_268001 := Aside0.mk (Kd.V_below (by (with_reducible repeat (first | apply Kd.V_alloc | apply Kd.V_drewN | apply Kd.V_drew)); exact HO_268001.out) hb); replace HO_276001 := Aside0.mk (Kd.N_below (by (with_reducible repeat (first | apply Kd.N_alloc | apply Kd.N_drewN | apply Kd.N_drew)); exact HO_276001.out) hb); replace HO287 := Aside0.mk (Kd.N_below (by (with_reducible repeat (first | apply Kd.N_alloc | apply Kd.N_drewN | apply Kd.N_drew)); exact HO287.out) hb); replace HO291 := Aside0.mk (Kd.N_below (by (with_reducible repeat (first | apply Kd.N_alloc | apply Kd.N_drewN | apply Kd.N_drew)); exact HO291.out) hb); replace BK267 := bkb_ BK267 hb; replace BK275 := bkb_ BK275 hb; replace BK292 := bkb_ BK292 hb; replace HB := bs_ hb; (try clear hb); (try clear hb2); (try clear hk); (try clear hi)))
            go_ret
            exact ⟨er_, bb_⟩
           ·rw [if_neg c54] at H
            exact absurd H (by simp)
         ·replace c51 := Bool.eq_false_iff.mpr c51
          subst c51
          have H1 : (none) = some r := by rw [if_neg (show ¬ (false = true) by decide)] at H; exact H
          clear H
          have H := H1
          clear H1
          exact absurd H (by simp)
        ·rw [if_neg c47] at H
         exact absurd H (by simp)
   ·replace c14 := Bool.eq_false_iff.mpr c14
    subst c14
    have H1 : (none) = some r := by rw [if_neg (show ¬ (false = true) by decide)] at H; exact H
    clear H
    have H := H1
    clear H1
    exact absurd H (by simp)
  ·replace c11 := Bool.eq_false_iff.mpr c11
   subst c11
   have H1 : (none) = some r := by rw [if_neg (show ¬ (false = true) by decide)] at H; exact H
   clear H
   have H := H1
   clear H1
   exact absurd H (by simp)

end Go.Proofs.Ytapgfamppnhnmaa.PFnExactBagOf
