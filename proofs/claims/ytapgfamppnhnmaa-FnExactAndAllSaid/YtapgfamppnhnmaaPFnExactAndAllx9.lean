-- WRITTEN BY xprint.py, a program of this session over the kit's printer: by nobody's hand
-- PRESSED
import Derived.Test.YtapgfamppnhnmaaPress
import Derived.Test.YtapgfamppnhnmaaWKept
import Derived.Test.YtapgfamppnhnmaaPFnExactAndAllx0
import Derived.Test.YtapgfamppnhnmaaPFnExactAndAllx8
namespace Go.Proofs.Ytapgfamppnhnmaa.PFnExactAndAll
open Go.RowKit Go.Proofs.YtapgfamppnhnmaaW.PrintWords Go.Proofs.YtapgfamppnhnmaaW.PrintLast Go.Proofs.YtapgfamppnhnmaaW.PrintMore
attribute [local go_sem] max2_int min2_int max_two min_two max_three min_three max_four min_four   -- for this text's walks alone
set_option linter.unusedVariables false
set_option linter.unusedSimpArgs false

/-! ### laws_eqValue: function 39 -/
def laws_eqValue.f (a0_0 : Int) (a0_1 : Int) (a0_2 : ByteArray) (a1_0 : Int) (a1_1 : Int) (a1_2 : ByteArray) : Option (Bool) := if a0_0 = a1_0 then (if a0_1 = a1_1 then (if a0_2.toList = a1_2.toList then (some true) else (some false)) else (some false)) else (some false)
set_option maxHeartbeats 8000000 in
set_option maxRecDepth 100000 in
theorem laws_eqValue.calls (a0_0 : Int) (a0_1 : Int) (a0_2 : ByteArray) (a1_0 : Int) (a1_1 : Int) (a1_2 : ByteArray) (r : Bool) (w : World) (h : laws_eqValue.f a0_0 a0_1 a0_2 a1_0 a1_1 a1_2 = some r) :
  Calls Try.prog 39 #[.agg #[.int .i64 a0_0, .int .i64 a0_1, .string a0_2], .agg #[.int .i64 a1_0, .int .i64 a1_1, .string a1_2]] w fun e w' => e = .returned (.bool r) ∧ Below w.heap.size w w' := by
 have hu25 := Try.underlying25
 have HB := Aside0.mk (Below.refl w.heap.size w)
 have H : (if a0_0 = a1_0 then (if a0_1 = a1_1 then (if a0_2.toList = a1_2.toList then (some true) else (some false)) else (some false)) else (some false)) = some r := h
 clear h
 by_cases c3 : a0_0 = a1_0
 ·rw [if_pos c3] at H
  have c3b0 : (a0_0 == a1_0) = true := beq_iff_eq.mpr c3
  have c3b1 : (a0_0 != a1_0) = false := bne_eq_false_iff_eq.mpr c3
  clear c3
  by_cases c4 : a0_1 = a1_1
  ·rw [if_pos c4] at H
   have c4b0 : (a0_1 == a1_1) = true := beq_iff_eq.mpr c4
   have c4b1 : (a0_1 != a1_1) = false := bne_eq_false_iff_eq.mpr c4
   clear c4
   by_cases c5 : a0_2.toList = a1_2.toList
   ·rw [if_pos c5] at H
    have c5b0 : (a0_2.toList == a1_2.toList) = true := beq_iff_eq.mpr c5
    have c5b1 : (a0_2.toList != a1_2.toList) = false := bne_eq_false_iff_eq.mpr c5
    clear c5
    obtain rfl := Option.some.inj H
    go_enter Try.func39, Try.ntmps39
    go_wp2_with (first | ((with_reducible refine gate_dst (N := 2) rfl ?_); refine bx_ 2 #[.int .i64 a0_0, .int .i64 a0_1, .string a0_2] 25 ?_; intro gb339 hg w6 hbox hb; have BK339 := Aside0.mk (hbox); have GW339 := gw_ hg; have GE339 := gw_ hg; replace HB := bs_ hb; clear hb hbox hg) | ((with_reducible refine gate_dst (N := 3) rfl ?_); refine bx_ 3 #[.int .i64 a1_0, .int .i64 a1_1, .string a1_2] 25 ?_; intro gb340 hg w7 hbox hb; have BK340 := Aside0.mk (hbox); have GW340 := gw_ hg; have GE340 := gw_ hg; have NB339_340 := nl_ hg BK339; have NB340_339 := ng_ hg BK339; replace BK339 := bkb_ BK339 hb; replace HB := bs_ hb; clear hb hbox hg; have hnb8 := NB339_340.out; have hnc8 := NB340_339.out; obtain ⟨hcz9_0, hcz9_1, hcz9_2, hfz9_0, hfz9_1, hfz9_2⟩ := b3_ BK339; obtain ⟨hcz10_0, hcz10_1, hcz10_2, hfz10_0, hfz10_1, hfz10_2⟩ := b3_ BK340))
    go_ret
    exact ⟨er_, bb_⟩
   ·rw [if_neg c5] at H
    have c5b0 : (a0_2.toList == a1_2.toList) = false := beq_eq_false_iff_ne.mpr c5
    have c5b1 : (a0_2.toList != a1_2.toList) = true := bne_iff_ne.mpr c5
    obtain rfl := Option.some.inj H
    go_enter Try.func39, Try.ntmps39
    go_wp2_with (first | ((with_reducible refine gate_dst (N := 2) rfl ?_); refine bx_ 2 #[.int .i64 a0_0, .int .i64 a0_1, .string a0_2] 25 ?_; intro gb339 hg w11 hbox hb; have BK339 := Aside0.mk (hbox); have GW339 := gw_ hg; have GE339 := gw_ hg; replace HB := bs_ hb; clear hb hbox hg) | ((with_reducible refine gate_dst (N := 3) rfl ?_); refine bx_ 3 #[.int .i64 a1_0, .int .i64 a1_1, .string a1_2] 25 ?_; intro gb340 hg w12 hbox hb; have BK340 := Aside0.mk (hbox); have GW340 := gw_ hg; have GE340 := gw_ hg; have NB339_340 := nl_ hg BK339; have NB340_339 := ng_ hg BK339; replace BK339 := bkb_ BK339 hb; replace HB := bs_ hb; clear hb hbox hg; have hnb13 := NB339_340.out; have hnc13 := NB340_339.out; obtain ⟨hcz14_0, hcz14_1, hcz14_2, hfz14_0, hfz14_1, hfz14_2⟩ := b3_ BK339; obtain ⟨hcz15_0, hcz15_1, hcz15_2, hfz15_0, hfz15_1, hfz15_2⟩ := b3_ BK340))
    go_ret
    exact ⟨er_, bb_⟩
  ·rw [if_neg c4] at H
   have c4b0 : (a0_1 == a1_1) = false := beq_eq_false_iff_ne.mpr c4
   have c4b1 : (a0_1 != a1_1) = true := bne_iff_ne.mpr c4
   obtain rfl := Option.some.inj H
   go_enter Try.func39, Try.ntmps39
   go_wp2_with (first | ((with_reducible refine gate_dst (N := 2) rfl ?_); refine bx_ 2 #[.int .i64 a0_0, .int .i64 a0_1, .string a0_2] 25 ?_; intro gb339 hg w16 hbox hb; have BK339 := Aside0.mk (hbox); have GW339 := gw_ hg; have GE339 := gw_ hg; replace HB := bs_ hb; clear hb hbox hg) | ((with_reducible refine gate_dst (N := 3) rfl ?_); refine bx_ 3 #[.int .i64 a1_0, .int .i64 a1_1, .string a1_2] 25 ?_; intro gb340 hg w17 hbox hb; have BK340 := Aside0.mk (hbox); have GW340 := gw_ hg; have GE340 := gw_ hg; have NB339_340 := nl_ hg BK339; have NB340_339 := ng_ hg BK339; replace BK339 := bkb_ BK339 hb; replace HB := bs_ hb; clear hb hbox hg; have hnb18 := NB339_340.out; have hnc18 := NB340_339.out; obtain ⟨hcz19_0, hcz19_1, hcz19_2, hfz19_0, hfz19_1, hfz19_2⟩ := b3_ BK339; obtain ⟨hcz20_0, hcz20_1, hcz20_2, hfz20_0, hfz20_1, hfz20_2⟩ := b3_ BK340))
   go_ret
   exact ⟨er_, bb_⟩
 ·rw [if_neg c3] at H
  have c3b0 : (a0_0 == a1_0) = false := beq_eq_false_iff_ne.mpr c3
  have c3b1 : (a0_0 != a1_0) = true := bne_iff_ne.mpr c3
  obtain rfl := Option.some.inj H
  go_enter Try.func39, Try.ntmps39
  go_wp2_with (first | ((with_reducible refine gate_dst (N := 2) rfl ?_); refine bx_ 2 #[.int .i64 a0_0, .int .i64 a0_1, .string a0_2] 25 ?_; intro gb339 hg w21 hbox hb; have BK339 := Aside0.mk (hbox); have GW339 := gw_ hg; have GE339 := gw_ hg; replace HB := bs_ hb; clear hb hbox hg) | ((with_reducible refine gate_dst (N := 3) rfl ?_); refine bx_ 3 #[.int .i64 a1_0, .int .i64 a1_1, .string a1_2] 25 ?_; intro gb340 hg w22 hbox hb; have BK340 := Aside0.mk (hbox); have GW340 := gw_ hg; have GE340 := gw_ hg; have NB339_340 := nl_ hg BK339; have NB340_339 := ng_ hg BK339; replace BK339 := bkb_ BK339 hb; replace HB := bs_ hb; clear hb hbox hg; have hnb23 := NB339_340.out; have hnc23 := NB340_339.out; obtain ⟨hcz24_0, hcz24_1, hcz24_2, hfz24_0, hfz24_1, hfz24_2⟩ := b3_ BK339; obtain ⟨hcz25_0, hcz25_1, hcz25_2, hfz25_0, hfz25_1, hfz25_2⟩ := b3_ BK340))
  go_ret
  exact ⟨er_, bb_⟩

/-! ### laws_eqExp: function 10 -/
def laws_eqExp.f : Nat → Int → Int → Int → Int → ByteArray → ByteArray → (List (S28)) → Int → Int → Int → Int → ByteArray → ByteArray → (List (S28)) → Option (Bool)
 | 0, _, _, _, _, _, _, _, _, _, _, _, _, _, _ => none
 | k + 1, a0_0, a0_1, a0_2, a0_3, a0_4, a0_5, l0_6, a1_0, a1_1, a1_2, a1_3, a1_4, a1_5, l1_6 => if a0_0 = a1_0 then (if a0_1 = a1_1 then ((laws_eqValue.f a0_2 a0_3 a0_4 a1_2 a1_3 a1_4).bind fun t343 => (if t343 = true then (if a0_5.toList = a1_5.toList then ((laws_eqExpS.f (laws_eqExp.f k) k l0_6 l1_6).bind fun t344 => (if t344 = true then (some true) else (some false))) else (some false)) else (some false))) else (some false)) else (some false)
set_option maxHeartbeats 8000000 in
set_option maxRecDepth 100000 in
theorem laws_eqExp.calls : ∀ (k : Nat) (a0_0 : Int) (a0_1 : Int) (a0_2 : Int) (a0_3 : Int) (a0_4 : ByteArray) (a0_5 : ByteArray) (A0_6 : Option Addr) (c0_6 : Nat) (l0_6 : List (S28)) (a1_0 : Int) (a1_1 : Int) (a1_2 : Int) (a1_3 : Int) (a1_4 : ByteArray) (a1_5 : ByteArray) (A1_6 : Option Addr) (c1_6 : Nat) (l1_6 : List (S28)) (r : Bool) (w : World) (hr0_6 : Kd.C k28 w A0_6 l0_6.length l0_6) (hc0_6 : l0_6.length ≤ c0_6) (hr1_6 : Kd.C k28 w A1_6 l1_6.length l1_6) (hc1_6 : l1_6.length ≤ c1_6) (h : laws_eqExp.f k a0_0 a0_1 a0_2 a0_3 a0_4 a0_5 l0_6 a1_0 a1_1 a1_2 a1_3 a1_4 a1_5 l1_6 = some r),
  Calls Try.prog 10 #[.agg #[.int .i64 a0_0, .int .i64 a0_1, .int .i64 a0_2, .int .i64 a0_3, .string a0_4, .string a0_5, .slice A0_6 l0_6.length c0_6], .agg #[.int .i64 a1_0, .int .i64 a1_1, .int .i64 a1_2, .int .i64 a1_3, .string a1_4, .string a1_5, .slice A1_6 l1_6.length c1_6]] w fun e w' => e = .returned (.bool r) ∧ Below w.heap.size w w' := by
 intro k
 induction k with
 | zero =>
  intro a0_0 a0_1 a0_2 a0_3 a0_4 a0_5 A0_6 c0_6 l0_6 a1_0 a1_1 a1_2 a1_3 a1_4 a1_5 A1_6 c1_6 l1_6 r w hr0_6 hc0_6 hr1_6 hc1_6 h
  exact absurd h (by simp [laws_eqExp.f])
 | succ k ih_ =>
  intro a0_0 a0_1 a0_2 a0_3 a0_4 a0_5 A0_6 c0_6 l0_6 a1_0 a1_1 a1_2 a1_3 a1_4 a1_5 A1_6 c1_6 l1_6 r w hr0_6 hc0_6 hr1_6 hc1_6 h
  have hu28 := Try.underlying28
  have hu25 := Try.underlying25
  have HR0_6 := Aside0.mk hr0_6
  have HC0_6 := Aside0.mk hc0_6
  clear hr0_6 hc0_6
  have HR1_6 := Aside0.mk hr1_6
  have HC1_6 := Aside0.mk hc1_6
  clear hr1_6 hc1_6
  have HB := Aside0.mk (Below.refl w.heap.size w)
  have H : (if a0_0 = a1_0 then (if a0_1 = a1_1 then ((laws_eqValue.f a0_2 a0_3 a0_4 a1_2 a1_3 a1_4).bind fun t343 => (if t343 = true then (if a0_5.toList = a1_5.toList then ((laws_eqExpS.f (laws_eqExp.f k) k l0_6 l1_6).bind fun t344 => (if t344 = true then (some true) else (some false))) else (some false)) else (some false))) else (some false)) else (some false)) = some r := h
  clear h
  by_cases c3 : a0_0 = a1_0
  ·rw [if_pos c3] at H
   have c3b0 : (a0_0 == a1_0) = true := beq_iff_eq.mpr c3
   have c3b1 : (a0_0 != a1_0) = false := bne_eq_false_iff_eq.mpr c3
   clear c3
   by_cases c4 : a0_1 = a1_1
   ·rw [if_pos c4] at H
    have c4b0 : (a0_1 == a1_1) = true := beq_iff_eq.mpr c4
    have c4b1 : (a0_1 != a1_1) = false := bne_eq_false_iff_eq.mpr c4
    clear c4
    replace H := Option.bind_eq_some_iff.mp H
    obtain ⟨t343, A50, H⟩ := H
    replace H : (if t343 = true then (if a0_5.toList = a1_5.toList then ((laws_eqExpS.f (laws_eqExp.f k) k l0_6 l1_6).bind fun t344 => (if t344 = true then (some true) else (some false))) else (some false)) else (some false)) = some r := H
    have A5 := Aside0.mk A50
    clear A50
    by_cases c6 : t343 = true
    ·subst c6
     have H1 : (if a0_5.toList = a1_5.toList then ((laws_eqExpS.f (laws_eqExp.f k) k l0_6 l1_6).bind fun t344 => (if t344 = true then (some true) else (some false))) else (some false)) = some r := by rw [if_pos rfl] at H; exact H
     clear H
     have H := H1
     clear H1
     by_cases c7 : a0_5.toList = a1_5.toList
     ·rw [if_pos c7] at H
      have c7b0 : (a0_5.toList == a1_5.toList) = true := beq_iff_eq.mpr c7
      have c7b1 : (a0_5.toList != a1_5.toList) = false := bne_eq_false_iff_eq.mpr c7
      clear c7
      replace H := Option.bind_eq_some_iff.mp H
      obtain ⟨t344, A80, H⟩ := H
      replace H : (if t344 = true then (some true) else (some false)) = some r := H
      have A8 := Aside0.mk A80
      clear A80
      by_cases c9 : t344 = true
      ·subst c9
       have H1 : (some true) = some r := by rw [if_pos rfl] at H; exact H
       clear H
       have H := H1
       clear H1
       obtain rfl := Option.some.inj H
       go_enter Try.func10, Try.ntmps10
       go_wp2_with (first | ((with_reducible refine gate_dst (N := 2) rfl ?_); refine bx_ 2 #[.int .i64 a0_0, .int .i64 a0_1, .int .i64 a0_2, .int .i64 a0_3, .string a0_4, .string a0_5, .slice A0_6 l0_6.length c0_6] 28 ?_; intro gb341 hg w10 hbox hb; have BK341 := Aside0.mk (hbox); have GW341 := gw_ hg; have GE341 := gw_ hg; replace HB := bs_ hb; clear hb hbox hg) | ((with_reducible refine gate_dst (N := 3) rfl ?_); refine bx_ 3 #[.int .i64 a1_0, .int .i64 a1_1, .int .i64 a1_2, .int .i64 a1_3, .string a1_4, .string a1_5, .slice A1_6 l1_6.length c1_6] 28 ?_; intro gb342 hg w11 hbox hb; have BK342 := Aside0.mk (hbox); have GW342 := gw_ hg; have GE342 := gw_ hg; have NB341_342 := nl_ hg BK341; have NB342_341 := ng_ hg BK341; replace BK341 := bkb_ BK341 hb; replace HB := bs_ hb; clear hb hbox hg; have hnb12 := NB341_342.out; have hnc12 := NB342_341.out; obtain ⟨hcz13_0, hcz13_1, hcz13_2, hcz13_3, hcz13_4, hcz13_5, hcz13_6, hfz13_0, hfz13_1, hfz13_2, hfz13_3, hfz13_4, hfz13_5, hfz13_6⟩ := b7_ BK341; obtain ⟨hcz14_0, hcz14_1, hcz14_2, hcz14_3, hcz14_4, hcz14_5, hcz14_6, hfz14_0, hfz14_1, hfz14_2, hfz14_3, hfz14_4, hfz14_5, hfz14_6⟩ := b7_ BK342) | ((with_reducible refine gate_callee (f := 39) rfl ?_); refine gsL_ (some 19) Try.func39 #[.agg #[.int .i64 a0_2, .int .i64 a0_3, .string a0_4], .agg #[.int .i64 a1_2, .int .i64 a1_3, .string a1_4]] ?_; (with_reducible refine (laws_eqValue.calls a0_2 a0_3 a0_4 a1_2 a1_3 a1_4 true _ A5.out).mono ?_); rintro e w15 ⟨rfl, hb⟩; refine ⟨_, rfl, ?_⟩; replace BK341 := bkb_ BK341 hb; replace BK342 := bkb_ BK342 hb; replace HB := bs_ hb; (try clear hb); (try clear hb2); (try clear hk); (try clear hi); obtain ⟨hcz16_0, hcz16_1, hcz16_2, hcz16_3, hcz16_4, hcz16_5, hcz16_6, hfz16_0, hfz16_1, hfz16_2, hfz16_3, hfz16_4, hfz16_5, hfz16_6⟩ := b7_ BK341; obtain ⟨hcz17_0, hcz17_1, hcz17_2, hcz17_3, hcz17_4, hcz17_5, hcz17_6, hfz17_0, hfz17_1, hfz17_2, hfz17_3, hfz17_4, hfz17_5, hfz17_6⟩ := b7_ BK342) | ((with_reducible refine gate_callee (f := 11) rfl ?_); refine gsL_ (some 30) Try.func11 #[.slice A0_6 l0_6.length c0_6, .slice A1_6 l1_6.length c1_6] ?_; (with_reducible refine (laws_eqExpS.calls (laws_eqExp.f k) ih_ k _ _ l0_6 _ _ l1_6 true _ ?side1 ?side2 ?side3 ?side4 A8.out).mono ?_); (case side1 => exact ck_ (Kd.C_below HR0_6.out HB.out)); (case side2 => exact HC0_6.out); (case side3 => exact ck_ (Kd.C_below HR1_6.out HB.out)); (case side4 => exact HC1_6.out); rintro e w18 ⟨rfl, hb⟩; refine ⟨_, rfl, ?_⟩; replace BK341 := bkb_ BK341 hb; replace BK342 := bkb_ BK342 hb; replace HB := bs_ hb; (try clear hb); (try clear hb2); (try clear hk); (try clear hi)))
       go_ret
       exact ⟨er_, bb_⟩
      ·replace c9 := Bool.eq_false_iff.mpr c9
       subst c9
       have H1 : (some false) = some r := by rw [if_neg (show ¬ (false = true) by decide)] at H; exact H
       clear H
       have H := H1
       clear H1
       obtain rfl := Option.some.inj H
       go_enter Try.func10, Try.ntmps10
       go_wp2_with (first | ((with_reducible refine gate_dst (N := 2) rfl ?_); refine bx_ 2 #[.int .i64 a0_0, .int .i64 a0_1, .int .i64 a0_2, .int .i64 a0_3, .string a0_4, .string a0_5, .slice A0_6 l0_6.length c0_6] 28 ?_; intro gb341 hg w19 hbox hb; have BK341 := Aside0.mk (hbox); have GW341 := gw_ hg; have GE341 := gw_ hg; replace HB := bs_ hb; clear hb hbox hg) | ((with_reducible refine gate_dst (N := 3) rfl ?_); refine bx_ 3 #[.int .i64 a1_0, .int .i64 a1_1, .int .i64 a1_2, .int .i64 a1_3, .string a1_4, .string a1_5, .slice A1_6 l1_6.length c1_6] 28 ?_; intro gb342 hg w20 hbox hb; have BK342 := Aside0.mk (hbox); have GW342 := gw_ hg; have GE342 := gw_ hg; have NB341_342 := nl_ hg BK341; have NB342_341 := ng_ hg BK341; replace BK341 := bkb_ BK341 hb; replace HB := bs_ hb; clear hb hbox hg; have hnb21 := NB341_342.out; have hnc21 := NB342_341.out; obtain ⟨hcz22_0, hcz22_1, hcz22_2, hcz22_3, hcz22_4, hcz22_5, hcz22_6, hfz22_0, hfz22_1, hfz22_2, hfz22_3, hfz22_4, hfz22_5, hfz22_6⟩ := b7_ BK341; obtain ⟨hcz23_0, hcz23_1, hcz23_2, hcz23_3, hcz23_4, hcz23_5, hcz23_6, hfz23_0, hfz23_1, hfz23_2, hfz23_3, hfz23_4, hfz23_5, hfz23_6⟩ := b7_ BK342) | ((with_reducible refine gate_callee (f := 39) rfl ?_); refine gsL_ (some 19) Try.func39 #[.agg #[.int .i64 a0_2, .int .i64 a0_3, .string a0_4], .agg #[.int .i64 a1_2, .int .i64 a1_3, .string a1_4]] ?_; (with_reducible refine (laws_eqValue.calls a0_2 a0_3 a0_4 a1_2 a1_3 a1_4 true _ A5.out).mono ?_); rintro e w24 ⟨rfl, hb⟩; refine ⟨_, rfl, ?_⟩; replace BK341 := bkb_ BK341 hb; replace BK342 := bkb_ BK342 hb; replace HB := bs_ hb; (try clear hb); (try clear hb2); (try clear hk); (try clear hi); obtain ⟨hcz25_0, hcz25_1, hcz25_2, hcz25_3, hcz25_4, hcz25_5, hcz25_6, hfz25_0, hfz25_1, hfz25_2, hfz25_3, hfz25_4, hfz25_5, hfz25_6⟩ := b7_ BK341; obtain ⟨hcz26_0, hcz26_1, hcz26_2, hcz26_3, hcz26_4, hcz26_5, hcz26_6, hfz26_0, hfz26_1, hfz26_2, hfz26_3, hfz26_4, hfz26_5, hfz26_6⟩ := b7_ BK342) | ((with_reducible refine gate_callee (f := 11) rfl ?_); refine gsL_ (some 30) Try.func11 #[.slice A0_6 l0_6.length c0_6, .slice A1_6 l1_6.length c1_6] ?_; (with_reducible refine (laws_eqExpS.calls (laws_eqExp.f k) ih_ k _ _ l0_6 _ _ l1_6 false _ ?side1 ?side2 ?side3 ?side4 A8.out).mono ?_); (case side1 => exact ck_ (Kd.C_below HR0_6.out HB.out)); (case side2 => exact HC0_6.out); (case side3 => exact ck_ (Kd.C_below HR1_6.out HB.out)); (case side4 => exact HC1_6.out); rintro e w27 ⟨rfl, hb⟩; refine ⟨_, rfl, ?_⟩; replace BK341 := bkb_ BK341 hb; replace BK342 := bkb_ BK342 hb; replace HB := bs_ hb; (try clear hb); (try clear hb2); (try clear hk); (try clear hi)))
       go_ret
       exact ⟨er_, bb_⟩
     ·rw [if_neg c7] at H
      have c7b0 : (a0_5.toList == a1_5.toList) = false := beq_eq_false_iff_ne.mpr c7
      have c7b1 : (a0_5.toList != a1_5.toList) = true := bne_iff_ne.mpr c7
      obtain rfl := Option.some.inj H
      go_enter Try.func10, Try.ntmps10
      go_wp2_with (first | ((with_reducible refine gate_dst (N := 2) rfl ?_); refine bx_ 2 #[.int .i64 a0_0, .int .i64 a0_1, .int .i64 a0_2, .int .i64 a0_3, .string a0_4, .string a0_5, .slice A0_6 l0_6.length c0_6] 28 ?_; intro gb341 hg w28 hbox hb; have BK341 := Aside0.mk (hbox); have GW341 := gw_ hg; have GE341 := gw_ hg; replace HB := bs_ hb; clear hb hbox hg) | ((with_reducible refine gate_dst (N := 3) rfl ?_); refine bx_ 3 #[.int .i64 a1_0, .int .i64 a1_1, .int .i64 a1_2, .int .i64 a1_3, .string a1_4, .string a1_5, .slice A1_6 l1_6.length c1_6] 28 ?_; intro gb342 hg w29 hbox hb; have BK342 := Aside0.mk (hbox); have GW342 := gw_ hg; have GE342 := gw_ hg; have NB341_342 := nl_ hg BK341; have NB342_341 := ng_ hg BK341; replace BK341 := bkb_ BK341 hb; replace HB := bs_ hb; clear hb hbox hg; have hnb30 := NB341_342.out; have hnc30 := NB342_341.out; obtain ⟨hcz31_0, hcz31_1, hcz31_2, hcz31_3, hcz31_4, hcz31_5, hcz31_6, hfz31_0, hfz31_1, hfz31_2, hfz31_3, hfz31_4, hfz31_5, hfz31_6⟩ := b7_ BK341; obtain ⟨hcz32_0, hcz32_1, hcz32_2, hcz32_3, hcz32_4, hcz32_5, hcz32_6, hfz32_0, hfz32_1, hfz32_2, hfz32_3, hfz32_4, hfz32_5, hfz32_6⟩ := b7_ BK342) | ((with_reducible refine gate_callee (f := 39) rfl ?_); refine gsL_ (some 19) Try.func39 #[.agg #[.int .i64 a0_2, .int .i64 a0_3, .string a0_4], .agg #[.int .i64 a1_2, .int .i64 a1_3, .string a1_4]] ?_; (with_reducible refine (laws_eqValue.calls a0_2 a0_3 a0_4 a1_2 a1_3 a1_4 true _ A5.out).mono ?_); rintro e w33 ⟨rfl, hb⟩; refine ⟨_, rfl, ?_⟩; replace BK341 := bkb_ BK341 hb; replace BK342 := bkb_ BK342 hb; replace HB := bs_ hb; (try clear hb); (try clear hb2); (try clear hk); (try clear hi); obtain ⟨hcz34_0, hcz34_1, hcz34_2, hcz34_3, hcz34_4, hcz34_5, hcz34_6, hfz34_0, hfz34_1, hfz34_2, hfz34_3, hfz34_4, hfz34_5, hfz34_6⟩ := b7_ BK341; obtain ⟨hcz35_0, hcz35_1, hcz35_2, hcz35_3, hcz35_4, hcz35_5, hcz35_6, hfz35_0, hfz35_1, hfz35_2, hfz35_3, hfz35_4, hfz35_5, hfz35_6⟩ := b7_ BK342))
      go_ret
      exact ⟨er_, bb_⟩
    ·replace c6 := Bool.eq_false_iff.mpr c6
     subst c6
     have H1 : (some false) = some r := by rw [if_neg (show ¬ (false = true) by decide)] at H; exact H
     clear H
     have H := H1
     clear H1
     obtain rfl := Option.some.inj H
     go_enter Try.func10, Try.ntmps10
     go_wp2_with (first | ((with_reducible refine gate_dst (N := 2) rfl ?_); refine bx_ 2 #[.int .i64 a0_0, .int .i64 a0_1, .int .i64 a0_2, .int .i64 a0_3, .string a0_4, .string a0_5, .slice A0_6 l0_6.length c0_6] 28 ?_; intro gb341 hg w36 hbox hb; have BK341 := Aside0.mk (hbox); have GW341 := gw_ hg; have GE341 := gw_ hg; replace HB := bs_ hb; clear hb hbox hg) | ((with_reducible refine gate_dst (N := 3) rfl ?_); refine bx_ 3 #[.int .i64 a1_0, .int .i64 a1_1, .int .i64 a1_2, .int .i64 a1_3, .string a1_4, .string a1_5, .slice A1_6 l1_6.length c1_6] 28 ?_; intro gb342 hg w37 hbox hb; have BK342 := Aside0.mk (hbox); have GW342 := gw_ hg; have GE342 := gw_ hg; have NB341_342 := nl_ hg BK341; have NB342_341 := ng_ hg BK341; replace BK341 := bkb_ BK341 hb; replace HB := bs_ hb; clear hb hbox hg; have hnb38 := NB341_342.out; have hnc38 := NB342_341.out; obtain ⟨hcz39_0, hcz39_1, hcz39_2, hcz39_3, hcz39_4, hcz39_5, hcz39_6, hfz39_0, hfz39_1, hfz39_2, hfz39_3, hfz39_4, hfz39_5, hfz39_6⟩ := b7_ BK341; obtain ⟨hcz40_0, hcz40_1, hcz40_2, hcz40_3, hcz40_4, hcz40_5, hcz40_6, hfz40_0, hfz40_1, hfz40_2, hfz40_3, hfz40_4, hfz40_5, hfz40_6⟩ := b7_ BK342) | ((with_reducible refine gate_callee (f := 39) rfl ?_); refine gsL_ (some 19) Try.func39 #[.agg #[.int .i64 a0_2, .int .i64 a0_3, .string a0_4], .agg #[.int .i64 a1_2, .int .i64 a1_3, .string a1_4]] ?_; (with_reducible refine (laws_eqValue.calls a0_2 a0_3 a0_4 a1_2 a1_3 a1_4 false _ A5.out).mono ?_); rintro e w41 ⟨rfl, hb⟩; refine ⟨_, rfl, ?_⟩; replace BK341 := bkb_ BK341 hb; replace BK342 := bkb_ BK342 hb; replace HB := bs_ hb; (try clear hb); (try clear hb2); (try clear hk); (try clear hi)))
     go_ret
     exact ⟨er_, bb_⟩
   ·rw [if_neg c4] at H
    have c4b0 : (a0_1 == a1_1) = false := beq_eq_false_iff_ne.mpr c4
    have c4b1 : (a0_1 != a1_1) = true := bne_iff_ne.mpr c4
    obtain rfl := Option.some.inj H
    go_enter Try.func10, Try.ntmps10
    go_wp2_with (first | ((with_reducible refine gate_dst (N := 2) rfl ?_); refine bx_ 2 #[.int .i64 a0_0, .int .i64 a0_1, .int .i64 a0_2, .int .i64 a0_3, .string a0_4, .string a0_5, .slice A0_6 l0_6.length c0_6] 28 ?_; intro gb341 hg w42 hbox hb; have BK341 := Aside0.mk (hbox); have GW341 := gw_ hg; have GE341 := gw_ hg; replace HB := bs_ hb; clear hb hbox hg) | ((with_reducible refine gate_dst (N := 3) rfl ?_); refine bx_ 3 #[.int .i64 a1_0, .int .i64 a1_1, .int .i64 a1_2, .int .i64 a1_3, .string a1_4, .string a1_5, .slice A1_6 l1_6.length c1_6] 28 ?_; intro gb342 hg w43 hbox hb; have BK342 := Aside0.mk (hbox); have GW342 := gw_ hg; have GE342 := gw_ hg; have NB341_342 := nl_ hg BK341; have NB342_341 := ng_ hg BK341; replace BK341 := bkb_ BK341 hb; replace HB := bs_ hb; clear hb hbox hg; have hnb44 := NB341_342.out; have hnc44 := NB342_341.out; obtain ⟨hcz45_0, hcz45_1, hcz45_2, hcz45_3, hcz45_4, hcz45_5, hcz45_6, hfz45_0, hfz45_1, hfz45_2, hfz45_3, hfz45_4, hfz45_5, hfz45_6⟩ := b7_ BK341; obtain ⟨hcz46_0, hcz46_1, hcz46_2, hcz46_3, hcz46_4, hcz46_5, hcz46_6, hfz46_0, hfz46_1, hfz46_2, hfz46_3, hfz46_4, hfz46_5, hfz46_6⟩ := b7_ BK342))
    go_ret
    exact ⟨er_, bb_⟩
  ·rw [if_neg c3] at H
   have c3b0 : (a0_0 == a1_0) = false := beq_eq_false_iff_ne.mpr c3
   have c3b1 : (a0_0 != a1_0) = true := bne_iff_ne.mpr c3
   obtain rfl := Option.some.inj H
   go_enter Try.func10, Try.ntmps10
   go_wp2_with (first | ((with_reducible refine gate_dst (N := 2) rfl ?_); refine bx_ 2 #[.int .i64 a0_0, .int .i64 a0_1, .int .i64 a0_2, .int .i64 a0_3, .string a0_4, .string a0_5, .slice A0_6 l0_6.length c0_6] 28 ?_; intro gb341 hg w47 hbox hb; have BK341 := Aside0.mk (hbox); have GW341 := gw_ hg; have GE341 := gw_ hg; replace HB := bs_ hb; clear hb hbox hg) | ((with_reducible refine gate_dst (N := 3) rfl ?_); refine bx_ 3 #[.int .i64 a1_0, .int .i64 a1_1, .int .i64 a1_2, .int .i64 a1_3, .string a1_4, .string a1_5, .slice A1_6 l1_6.length c1_6] 28 ?_; intro gb342 hg w48 hbox hb; have BK342 := Aside0.mk (hbox); have GW342 := gw_ hg; have GE342 := gw_ hg; have NB341_342 := nl_ hg BK341; have NB342_341 := ng_ hg BK341; replace BK341 := bkb_ BK341 hb; replace HB := bs_ hb; clear hb hbox hg; have hnb49 := NB341_342.out; have hnc49 := NB342_341.out; obtain ⟨hcz50_0, hcz50_1, hcz50_2, hcz50_3, hcz50_4, hcz50_5, hcz50_6, hfz50_0, hfz50_1, hfz50_2, hfz50_3, hfz50_4, hfz50_5, hfz50_6⟩ := b7_ BK341; obtain ⟨hcz51_0, hcz51_1, hcz51_2, hcz51_3, hcz51_4, hcz51_5, hcz51_6, hfz51_0, hfz51_1, hfz51_2, hfz51_3, hfz51_4, hfz51_5, hfz51_6⟩ := b7_ BK342))
   go_ret
   exact ⟨er_, bb_⟩

/-! ### laws_markText: function 40 -/
def laws_markText.l0 : Nat → Int → ByteArray → Option (ByteArray)
 | 0, _, _ => none
 | k + 1, x0, x3 => if x0 > 0 then ((some (([(wrap64 (48 + (Int.tmod x0 10))) % 256] : List Int) : List Int)).bind fun y345 => (if (strOfNums y345).size + x3.size ≤ 9223372036854775807 then (laws_markText.l0 k (wrap64 (Int.tdiv x0 10)) ((strOfNums y345) ++ x3)) else (none))) else (if 1 + x3.size ≤ 9223372036854775807 then (some ((⟨#[109]⟩ : ByteArray) ++ x3)) else (none))
def laws_markText.f (k : Nat) (a0 : Int) : Option (ByteArray) := if a0 ≤ 0 then (some (⟨#[109, 48]⟩ : ByteArray)) else (laws_markText.l0 k a0 (⟨#[]⟩ : ByteArray))
set_option maxHeartbeats 8000000 in
set_option maxRecDepth 100000 in
theorem laws_markText.calls (k : Nat) (a0 : Int) (r : ByteArray) (w : World) (h : laws_markText.f k a0 = some r) :
  Calls Try.prog 40 #[.int .i64 a0] w fun e w' => e = .returned (.string r) ∧ Below w.heap.size w w' := by
 have HB := Aside0.mk (Below.refl w.heap.size w)
 have H : (if a0 ≤ 0 then (some (⟨#[109, 48]⟩ : ByteArray)) else (laws_markText.l0 k a0 (⟨#[]⟩ : ByteArray))) = some r := h
 clear h
 by_cases c2 : a0 ≤ 0
 ·rw [if_pos c2] at H
  have c2b0 : decide (a0 ≤ 0) = true := decide_eq_true c2
  clear c2
  obtain rfl := Option.some.inj H
  go_enter Try.func40, Try.ntmps40
  go_wp2
  go_ret
  exact ⟨er_, bb_⟩
 ·rw [if_neg c2] at H
  have c2b0 : decide (a0 ≤ 0) = false := decide_eq_false c2
  clear c2
  have H' := Aside0.mk H
  clear H
  go_enter Try.func40, Try.ntmps40
  go_wp2
  go_loopg [0, 3] k (fun kq v0 v3 w' => ∃ (x0_1 : Int) (x3_1 : ByteArray), v0 = .int .i64 x0_1 ∧ v3 = .string x3_1 ∧ Aside0 (laws_markText.l0 kq x0_1 x3_1 = some r) ∧ Aside0 (kq ≤ k) ∧ Aside0 (Below w.heap.size w w'))
  case atStart => exact ⟨(a0), ((⟨#[]⟩ : ByteArray)), rs_, rs_, H', ⟨Nat.le_refl _⟩, ⟨bb_⟩⟩
  case round =>
   clear H'
   try clear c2
   try clear c2b0
   try clear p2
   obtain ⟨x0_1, x3_1, rfl, rfl, HA, HK1, HB⟩ := hrel
   cases gk with
   | zero => exact absurd HA.out (by simp [laws_markText.l0])
   | succ k1 =>
    have H := HA.out
    clear HA
    simp only [laws_markText.l0] at H
    by_cases c3 : x0_1 > 0
    ·rw [if_pos c3] at H
     have c3b0 : decide (0 < x0_1) = true := decide_eq_true c3
     clear c3
     obtain ⟨y345, hy345⟩ : ∃ y_ : List Int, y_ = (([(wrap64 (48 + (Int.tmod x0_1 10))) % 256] : List Int)) := ⟨_, rfl⟩
     replace H : (if (strOfNums y345).size + x3_1.size ≤ 9223372036854775807 then (laws_markText.l0 k1 (wrap64 (Int.tdiv x0_1 10)) ((strOfNums y345) ++ x3_1)) else (none)) = some r := by first | (rw [hy345]; with_reducible exact H) | (have H2_ := (Option.bind_some _ _).symm.trans H; rw [hy345]; with_reducible exact H2_) | (have H2_ := (Option.bind_some _ _).symm.trans H; with_reducible exact H2_) | with_reducible exact H | (rw [hy345]; exact H) | exact H
     have Ny345 := Aside0.mk hy345
     clear hy345
     by_cases c4 : (strOfNums y345).size + x3_1.size ≤ 9223372036854775807
     ·rw [if_pos c4] at H
      have c4b0 := eq_true c4
      have c4b1 : decide ((strOfNums y345).size + x3_1.size ≤ 9223372036854775807) = true := decide_eq_true c4
      try have c4b2 : (9223372036854775807 < (strOfNums y345).size + x3_1.size) = False := eq_false (Nat.not_lt.2 c4)
      have H' := Aside0.mk H
      clear H
      go_wp2_with (first | ((with_reducible refine gate_dst (N := 12) rfl ?_); refine Kd.R_lit (Kd.int .u8) _ 5 ?hg (N := 12) ?hd (xs := ([(wrap64 (48 + (Int.tmod x0_1 10))) % 256] : List Int)) (inner := [.int .u8 ((wrap64 (48 + (Int.tmod x0_1 10))) % 256)]) (ok := fun _ => True) (okp := fun _ => True) ?hr ?hp (fun _ hk => hk) trivial (Below.refl _ _) (Nat.le_refl _) (by simp) ?_; (case hd => rfl); (case hg => rfl); (case hr => first | (go_simp; done) | (go_simp; rfl)); (case hp => exact (Reps.one (show Kd.M (Kd.int .u8) _ _ _ ((wrap64 (48 + (Int.tmod x0_1 10))) % 256) [.int .u8 ((wrap64 (48 + (Int.tmod x0_1 10))) % 256)] from rfl) (Reps.none _ _))); intro v346 w5 ho6 hb hg_ hnew_; clear hg_ hnew_; (first | rw [← Ny345.out] at ho6 | (simp only [Int.reduceToNat] at ho6; rw [← Ny345.out] at ho6)); have HO347 := Aside0.mk (Kd.R_lower ho6 (below_size bb_)); replace HB := bs_ hb; clear hb ho6; have hcv7 := own_string (P := Try.prog) Try.underlying106 Try.underlying5 Try.underlying9 (Kd.own_of_R HO347.out)))
      go_roundg k1
      case measure => have := HK1.out; omega
      case rel => exact ⟨(wrap64 (Int.tdiv x0_1 10)), ((strOfNums y345) ++ x3_1), rs_, rs_, H', ⟨by have := HK1.out; omega⟩, ⟨bb_⟩⟩
     ·rw [if_neg c4] at H
      exact absurd H (by simp)
    ·rw [if_neg c3] at H
     have c3b0 : decide (0 < x0_1) = false := decide_eq_false c3
     clear c3
     by_cases c8 : 1 + x3_1.size ≤ 9223372036854775807
     ·rw [if_pos c8] at H
      have c8b0 := eq_true c8
      have c8b1 : decide (1 + x3_1.size ≤ 9223372036854775807) = true := decide_eq_true c8
      try have c8b2 : (9223372036854775807 < 1 + x3_1.size) = False := eq_false (Nat.not_lt.2 c8)
      obtain rfl := Option.some.inj H
      go_wp2
      go_ret
      exact ⟨er_, bb_⟩
     ·rw [if_neg c8] at H
      exact absurd H (by simp)

/-! ### laws_markExpS: function 12 -/
-- by hand
def cells28 (x : S28) (v : Value) : List Value := [.int .i64 x.f0, .int .i64 x.f1, .int .i64 x.f2.f0, .int .i64 x.f2.f1, .string x.f2.f2, .string x.f3, v]
/-- A cell of element i, e so far, is read and written: the element is e' then. -/
theorem mark28 {w : World} {base g n cap : Nat} {ok : Nat → Prop} {xs : List S28} {i : Int} {e : S28} (hS : Kd.S k28 28 w base ok (.slice (some ⟨g, 0, none⟩) n cap) (xs.set i.toNat e)) (h0 : 0 ≤ i) (h1 : i < (xs.length : Int)) (j : Nat) (hj : j + 1 ≤ 7) (old u : Value) (e' : S28)
    (hx : ∀ v, cells28 e' v = (cells28 e v).take j ++ [u] ++ (cells28 e v).drop (j + 1)) (hk : e'.f4 = e.f4) (ho : ∀ v, (cells28 e v)[j]? = some old) :
    w.cell? ⟨g, i.toNat * 7 + j, none⟩ = some old ∧ w.frozen? ⟨g, i.toNat * 7 + j, none⟩ = false ∧ Kd.S k28 28 (w.setCell ⟨g, i.toNat * 7 + j, none⟩ u) base ok (.slice (some ⟨g, 0, none⟩) n cap) (xs.set i.toNat e') ∧ w.grownBy (w.setCell ⟨g, i.toNat * 7 + j, none⟩ u) (some g) := by
  have hn := (Kd.S_reads' hS).1
  rw [List.length_set] at hn
  have hlt : i.toNat < xs.length := by omega
  obtain ⟨oki, c, hcl, hM, hcc, hfr, hoki, hH⟩ := Kd.S_elem hS z28 i h0 (by omega)
  have he : (xs.set i.toNat e).getD i.toNat z28 = e := by rw [List.getD_eq_getElem?_getD, List.getElem?_set_self hlt]; rfl
  rw [he] at hM
  obtain ⟨v, rfl, hR⟩ := k28_openM hM
  have hM' := k28_mkM w base oki e' (hk.symm ▸ hR)
  have hP := Kd.S_seg (okg := fun _ => False) (seg := [u]) (j := j) (Kd.H_mono hH (fun _ hk => ⟨hk, fun h => h⟩)) h0 (by omega) hj (x' := e') (okp := oki) (by
    have h := hx v
    unfold cells28 at h
    rw [h] at hM'
    exact hM') (fun k hk => .inl hk) (fun _ hk => hk.elim)
  rw [List.set_set] at hP
  exact ⟨hcc j _ (ho v), hfr j, hP⟩
mutual
def laws_markExpS.l0 : Nat → List (S28) → Int → Int → Option (Int × (List (S28)))
 | 0, _, _, _ => none
 | k + 1, x0, x1, x5 => if x5 < (x0.length : Int) then (if 0 ≤ x5 then ((laws_markText.f k (wrap64 (wrap64 (wrap64 (wrap64 (x1 + 1) + 1) + 1) + 1))).bind fun t4 => ((laws_markText.f k (wrap64 (wrap64 (wrap64 (wrap64 (wrap64 (x1 + 1) + 1) + 1) + 1) + 1))).bind fun t5 => ((laws_markExpS.f k (rd_T28 x0 x5).f4 (wrap64 (wrap64 (wrap64 (wrap64 (wrap64 (wrap64 (x1 + 1) + 1) + 1) + 1) + 1) + 1))).bind fun bt => (laws_markExpS.l0 k (x0.set (x5 : Int).toNat (⟨x1, wrap64 (x1 + 1), ⟨wrap64 (wrap64 (x1 + 1) + 1), wrap64 (wrap64 (wrap64 (x1 + 1) + 1) + 1), t4⟩, t5, bt.2⟩ : S28)) bt.1 (wrap64 (x5 + 1)))))) else (none)) else (some (x1, x0))
def laws_markExpS.f : Nat → List (S28) → Int → Option (Int × (List (S28)))
 | 0, _, _ => none
 | k + 1, l0, a1 => laws_markExpS.l0 k l0 a1 0
end
set_option maxHeartbeats 8000000 in
set_option maxRecDepth 100000 in
theorem laws_markExpS.calls (k : Nat) : ∀ (P0_ : Nat → Prop) (u9000_ : Value) (l0 : List (S28)) (a1 : Int) (r1 : Int) (r2 : List (S28)) (w0 w : World) (hB : Below w0.heap.size w0 w) (ho0 : Kd.S k28 28 w w0.heap.size P0_ u9000_ l0) (h : laws_markExpS.f k l0 a1 = some (r1, r2)),
  Calls Try.prog 12 #[u9000_, .int .i64 a1] w fun e w' => e = .returned (.int .i64 r1) ∧ Kd.S k28 28 w' w0.heap.size P0_ u9000_ r2 ∧ Below w0.heap.size w0 w' ∧ Kept w w' P0_ := by
 induction k using Nat.strongRecOn with
 | _ k ih =>
 intro P0_ u9000_ l0 a1 r1 r2 w0 w hB ho0 h
 cases k with
 | zero => exact absurd h (by simp [laws_markExpS.f])
 | succ k =>
 simp only [laws_markExpS.f] at h
 have HO0 := Aside0.mk ho0
 have HK := Aside0.mk (Kept.refl w P0_)
 have HB := Aside0.mk hB
 clear hB ho0
 have H' := Aside0.mk h
 clear h
 have IH := Aside0.mk ih
 clear ih
 have hu28 := Try.underlying28
 have hu25 := Try.underlying25
 go_enter Try.func12, Try.ntmps12
 go_wp2
 go_loopg [1, 5] k (fun kq v1 v5 w' => ∃ (x0_1 : List (S28)) (x1_1 : Int) (x5_1 : Int), v1 = .int .i64 x1_1 ∧ v5 = .int .i64 x5_1 ∧ Aside0 (laws_markExpS.l0 kq x0_1 x1_1 x5_1 = some (r1, r2)) ∧ Aside0 (kq ≤ k) ∧ Aside0 (Kd.S k28 28 w' w0.heap.size P0_ u9000_ x0_1) ∧ Aside0 (Kept w w' P0_) ∧ Aside0 (Below w0.heap.size w0 w'))
 case atStart => exact ⟨(l0), (a1), (0), rs_, rs_, H', ⟨Nat.le_refl _⟩, ⟨by (with_reducible repeat (first | apply Kd.S_alloc | apply Kd.S_drewN | apply Kd.S_drew)); exact HO0.out⟩, ⟨by repeat (first | (with_reducible first | exact HK.out | apply Kept.alloc | apply Kept.drewN | apply Kept.drew) | exact HK.out)⟩, ⟨bb_⟩⟩
 case round =>
  clear H' HO0 HK HB
  try clear p2
  obtain ⟨x0_1, x1_1, x5_1, rfl, rfl, HA, HK1, HO_0, HK, HB⟩ := hrel
  cases gk with
  | zero => exact absurd HA.out (by simp [laws_markExpS.l0])
  | succ k1 =>
   have H := HA.out
   clear HA
   simp only [laws_markExpS.l0] at H
   by_cases c3 : x5_1 < (x0_1.length : Int)
   ·rw [if_pos c3] at H
    have c3b0 : decide (x5_1 < (x0_1.length : Int)) = true := decide_eq_true c3
    by_cases c4 : 0 ≤ x5_1
    ·rw [if_pos c4] at H
     have c4b0 : decide (0 ≤ x5_1) = true := decide_eq_true c4
     replace H := Option.bind_eq_some_iff.mp H
     obtain ⟨t4, A10, H⟩ := H
     replace H := Option.bind_eq_some_iff.mp H
     obtain ⟨t5, A20, H⟩ := H
     replace H := Option.bind_eq_some_iff.mp H
     obtain ⟨⟨t6, m6⟩, A30, H⟩ := H
     obtain ⟨b0, b1, b2, b3, b4, b5, b6, hE⟩ : ∃ b0 b1 b2 b3 b4 b5 b6, rd_T28 x0_1 x5_1 = (⟨b0, b1, ⟨b2, b3, b4⟩, b5, b6⟩ : S28) := by
      cases hq : rd_T28 x0_1 x5_1 with
      | mk q0 q1 q2 q3 q4 => exact ⟨q0, q1, q2.f0, q2.f1, q2.f2, q3, q4, by cases q2; rfl⟩
     rw [hE] at A30
     replace A30 : laws_markExpS.f k1 b6 (wrap64 (wrap64 (wrap64 (wrap64 (wrap64 (wrap64 (x1_1 + 1) + 1) + 1) + 1) + 1) + 1)) = some (t6, m6) := A30
     replace H : laws_markExpS.l0 k1 (x0_1.set (x5_1 : Int).toNat (⟨x1_1, wrap64 (x1_1 + 1), ⟨wrap64 (wrap64 (x1_1 + 1) + 1), wrap64 (wrap64 (wrap64 (x1_1 + 1) + 1) + 1), t4⟩, t5, m6⟩ : S28)) t6 (wrap64 (x5_1 + 1)) = some (r1, r2) := H
     have A1 := Aside0.mk A10
     have A2 := Aside0.mk A20
     have A3 := Aside0.mk A30
     clear A10 A20 A30
     have H' := Aside0.mk H
     clear H
     have hset : x0_1.set (x5_1 : Int).toNat (⟨b0, b1, ⟨b2, b3, b4⟩, b5, b6⟩ : S28) = x0_1 := by
      have hlt : (x5_1 : Int).toNat < x0_1.length := by omega
      rw [← hE]
      unfold rd_T28
      rw [List.getD_eq_getElem?_getD, List.getElem?_eq_getElem hlt]
      exact List.set_getElem_self hlt
     have HS := Aside0.mk (show Kd.S k28 28 wr w0.heap.size P0_ u9000_ (x0_1.set (x5_1 : Int).toNat (⟨b0, b1, ⟨b2, b3, b4⟩, b5, b6⟩ : S28)) from hset.symm ▸ HO_0.out)
     clear hset hE
     obtain ⟨Ao9, co9, eo9⟩ := Kd.S_slice HO_0.out
     subst eo9
     obtain ⟨go5, co5, eo5, gb5, gl5, cl5, HG5⟩ := Kd.S_form HO_0.out (by omega)
     (first | cases eo5 | (injection eo5 with ea_ en_ ec_; (first | subst ea_ | (injection ea_ with ea_; subst ea_)); subst ec_; clear en_))
     have GB5 := Aside0.mk gb5
     have C3 := Aside0.mk c3
     have C4 := Aside0.mk c4
     have G0 := Aside0.mk ((Kd.S_R HO_0.out).1 go5 rfl)
     clear HO_0 gb5 gl5 cl5 HG5
     -- WALK
     have hm_ := mark28 HS.out C4.out C3.out 0 (by decide) _ (.int .i64 x1_1) (⟨x1_1, b1, ⟨b2, b3, b4⟩, b5, b6⟩ : S28) (fun _ => rfl) rfl (fun _ => rfl)
     have hx_0 : wr.cell? ⟨go5, (x5_1 : Int).toNat * 7, none⟩ = some (.int .i64 b0) := hm_.1
     have hf_0 : wr.frozen? ⟨go5, (x5_1 : Int).toNat * 7, none⟩ = false := hm_.2.1
     have HP := Aside0.mk hm_.2.2
     clear hm_
     go_wp2_with (first | ((with_reducible refine gate_store (t := 3) (p := 16) rfl ?_); refine store_event (t := 3) (p := 16) (v := ?vo_0) (w1 := (wr.setCell ⟨go5, (x5_1 : Int).toNat * 7, none⟩ (.int .i64 x1_1))) ?hg ?ho ?hn ?hr ?_; (case ho => rfl); (case hg => rfl); (case hn => rfl); (case hr => first | (go_simp; done) | (go_simp; rfl)); intro w20 hw; have hg : wr.grownBy w20 (some go5) := (by rw [hw]; exact HP.out.2); have n0_ := Aside0.mk (show Kd.S k28 28 w20 w0.heap.size P0_ (.slice (some ⟨go5, 0, none⟩) x0_1.length co9) (x0_1.set (x5_1 : Int).toNat (⟨x1_1, b1, ⟨b2, b3, b4⟩, b5, b6⟩ : S28)) from (by rw [hw]; exact HP.out.1)); have n1_ := Aside0.mk ((by rw [hw]; exact below_set HB.out GB5.out : Below w0.heap.size w0 w20)); have n2_ := Aside0.mk (Kept.of_grown (S := P0_) hg (by repeat (first | (with_reducible first | exact HK.out | apply Kept.alloc | apply Kept.drewN | apply Kept.drew) | exact HK.out)) (fun k_ e_ => by cases e_; exact .inl G0.out)); clear HS HB HK HP hg hw hx_0 hf_0; have HS := n0_; have HB := n1_; have HK := n2_; clear n0_ n1_ n2_; have hm_ := mark28 HS.out C4.out C3.out 1 (by decide) _ (.int .i64 (wrap64 (x1_1 + 1))) (⟨x1_1, (wrap64 (x1_1 + 1)), ⟨b2, b3, b4⟩, b5, b6⟩ : S28) (fun _ => rfl) rfl (fun _ => rfl); have hx_1 : w20.cell? ⟨go5, (x5_1 : Int).toNat * 7 + 1, none⟩ = some (.int .i64 b1) := hm_.1; have hf_1 : w20.frozen? ⟨go5, (x5_1 : Int).toNat * 7 + 1, none⟩ = false := hm_.2.1; have HP := Aside0.mk hm_.2.2; clear hm_) | ((with_reducible refine gate_store (t := 3) (p := 23) rfl ?_); refine store_event (t := 3) (p := 23) (v := ?vo_1) (w1 := (w20.setCell ⟨go5, (x5_1 : Int).toNat * 7 + 1, none⟩ (.int .i64 (wrap64 (x1_1 + 1))))) ?hg ?ho ?hn ?hr ?_; (case ho => rfl); (case hg => rfl); (case hn => rfl); (case hr => first | (go_simp; done) | (go_simp; rfl)); intro w21 hw; have hg : w20.grownBy w21 (some go5) := (by rw [hw]; exact HP.out.2); have n0_ := Aside0.mk (show Kd.S k28 28 w21 w0.heap.size P0_ (.slice (some ⟨go5, 0, none⟩) x0_1.length co9) (x0_1.set (x5_1 : Int).toNat (⟨x1_1, (wrap64 (x1_1 + 1)), ⟨b2, b3, b4⟩, b5, b6⟩ : S28)) from (by rw [hw]; exact HP.out.1)); have n1_ := Aside0.mk ((by rw [hw]; exact below_set HB.out GB5.out : Below w0.heap.size w0 w21)); have n2_ := Aside0.mk (Kept.of_grown (S := P0_) hg (by repeat (first | (with_reducible first | exact HK.out | apply Kept.alloc | apply Kept.drewN | apply Kept.drew) | exact HK.out)) (fun k_ e_ => by cases e_; exact .inl G0.out)); clear HS HB HK HP hg hw hx_1 hf_1; have HS := n0_; have HB := n1_; have HK := n2_; clear n0_ n1_ n2_; have hm_ := mark28 HS.out C4.out C3.out 2 (by decide) _ (.int .i64 (wrap64 ((wrap64 (x1_1 + 1)) + 1))) (⟨x1_1, (wrap64 (x1_1 + 1)), ⟨(wrap64 ((wrap64 (x1_1 + 1)) + 1)), b3, b4⟩, b5, b6⟩ : S28) (fun _ => rfl) rfl (fun _ => rfl); have hx_2 : w21.cell? ⟨go5, (x5_1 : Int).toNat * 7 + 2, none⟩ = some (.int .i64 b2) := hm_.1; have hf_2 : w21.frozen? ⟨go5, (x5_1 : Int).toNat * 7 + 2, none⟩ = false := hm_.2.1; have HP := Aside0.mk hm_.2.2; clear hm_) | ((with_reducible refine gate_store (t := 3) (p := 31) rfl ?_); refine store_event (t := 3) (p := 31) (v := ?vo_2) (w1 := (w21.setCell ⟨go5, (x5_1 : Int).toNat * 7 + 2, none⟩ (.int .i64 (wrap64 ((wrap64 (x1_1 + 1)) + 1))))) ?hg ?ho ?hn ?hr ?_; (case ho => rfl); (case hg => rfl); (case hn => rfl); (case hr => first | (go_simp; done) | (go_simp; rfl)); intro w22 hw; have hg : w21.grownBy w22 (some go5) := (by rw [hw]; exact HP.out.2); have n0_ := Aside0.mk (show Kd.S k28 28 w22 w0.heap.size P0_ (.slice (some ⟨go5, 0, none⟩) x0_1.length co9) (x0_1.set (x5_1 : Int).toNat (⟨x1_1, (wrap64 (x1_1 + 1)), ⟨(wrap64 ((wrap64 (x1_1 + 1)) + 1)), b3, b4⟩, b5, b6⟩ : S28)) from (by rw [hw]; exact HP.out.1)); have n1_ := Aside0.mk ((by rw [hw]; exact below_set HB.out GB5.out : Below w0.heap.size w0 w22)); have n2_ := Aside0.mk (Kept.of_grown (S := P0_) hg (by repeat (first | (with_reducible first | exact HK.out | apply Kept.alloc | apply Kept.drewN | apply Kept.drew) | exact HK.out)) (fun k_ e_ => by cases e_; exact .inl G0.out)); clear HS HB HK HP hg hw hx_2 hf_2; have HS := n0_; have HB := n1_; have HK := n2_; clear n0_ n1_ n2_; have hm_ := mark28 HS.out C4.out C3.out 3 (by decide) _ (.int .i64 (wrap64 ((wrap64 ((wrap64 (x1_1 + 1)) + 1)) + 1))) (⟨x1_1, (wrap64 (x1_1 + 1)), ⟨(wrap64 ((wrap64 (x1_1 + 1)) + 1)), (wrap64 ((wrap64 ((wrap64 (x1_1 + 1)) + 1)) + 1)), b4⟩, b5, b6⟩ : S28) (fun _ => rfl) rfl (fun _ => rfl); have hx_3 : w22.cell? ⟨go5, (x5_1 : Int).toNat * 7 + 3, none⟩ = some (.int .i64 b3) := hm_.1; have hf_3 : w22.frozen? ⟨go5, (x5_1 : Int).toNat * 7 + 3, none⟩ = false := hm_.2.1; have HP := Aside0.mk hm_.2.2; clear hm_) | ((with_reducible refine gate_store (t := 3) (p := 39) rfl ?_); refine store_event (t := 3) (p := 39) (v := ?vo_3) (w1 := (w22.setCell ⟨go5, (x5_1 : Int).toNat * 7 + 3, none⟩ (.int .i64 (wrap64 ((wrap64 ((wrap64 (x1_1 + 1)) + 1)) + 1))))) ?hg ?ho ?hn ?hr ?_; (case ho => rfl); (case hg => rfl); (case hn => rfl); (case hr => first | (go_simp; done) | (go_simp; rfl)); intro w23 hw; have hg : w22.grownBy w23 (some go5) := (by rw [hw]; exact HP.out.2); have n0_ := Aside0.mk (show Kd.S k28 28 w23 w0.heap.size P0_ (.slice (some ⟨go5, 0, none⟩) x0_1.length co9) (x0_1.set (x5_1 : Int).toNat (⟨x1_1, (wrap64 (x1_1 + 1)), ⟨(wrap64 ((wrap64 (x1_1 + 1)) + 1)), (wrap64 ((wrap64 ((wrap64 (x1_1 + 1)) + 1)) + 1)), b4⟩, b5, b6⟩ : S28)) from (by rw [hw]; exact HP.out.1)); have n1_ := Aside0.mk ((by rw [hw]; exact below_set HB.out GB5.out : Below w0.heap.size w0 w23)); have n2_ := Aside0.mk (Kept.of_grown (S := P0_) hg (by repeat (first | (with_reducible first | exact HK.out | apply Kept.alloc | apply Kept.drewN | apply Kept.drew) | exact HK.out)) (fun k_ e_ => by cases e_; exact .inl G0.out)); clear HS HB HK HP hg hw hx_3 hf_3; have HS := n0_; have HB := n1_; have HK := n2_; clear n0_ n1_ n2_) | ((with_reducible refine gate_callee (f := 40) rfl ?_); refine gsL_ (some 45) Try.func40 #[.int .i64 (wrap64 ((wrap64 ((wrap64 ((wrap64 (x1_1 + 1)) + 1)) + 1)) + 1))] ?_; (with_reducible refine (laws_markText.calls k1 (wrap64 ((wrap64 ((wrap64 ((wrap64 (x1_1 + 1)) + 1)) + 1)) + 1)) t4 _ A1.out).mono ?_); rintro e w34 ⟨rfl, hb⟩; refine ⟨_, rfl, ?_⟩; have n0_ := Aside0.mk (Kd.S_below (by (with_reducible repeat (first | apply Kd.S_alloc | apply Kd.S_drewN | apply Kd.S_drew)); exact HS.out) hb); have n1_ := bs_ hb; have n2_ := Aside0.mk (Kept.below (by repeat (first | (with_reducible first | exact HK.out | apply Kept.alloc | apply Kept.drewN | apply Kept.drew) | exact HK.out)) hb); clear HS HB HK; have HS := n0_; have HB := n1_; have HK := n2_; clear n0_ n1_ n2_ hb; have hm_ := mark28 HS.out C4.out C3.out 4 (by decide) _ (.string t4) (⟨x1_1, (wrap64 (x1_1 + 1)), ⟨(wrap64 ((wrap64 (x1_1 + 1)) + 1)), (wrap64 ((wrap64 ((wrap64 (x1_1 + 1)) + 1)) + 1)), t4⟩, b5, b6⟩ : S28) (fun _ => rfl) rfl (fun _ => rfl); have hx_4 : w34.cell? ⟨go5, (x5_1 : Int).toNat * 7 + 4, none⟩ = some (.string b4) := hm_.1; have hf_4 : w34.frozen? ⟨go5, (x5_1 : Int).toNat * 7 + 4, none⟩ = false := hm_.2.1; have HP := Aside0.mk hm_.2.2; clear hm_) | ((with_reducible refine gate_store (t := 9) (p := 48) rfl ?_); refine store_event (t := 9) (p := 48) (v := ?vo_4) (w1 := (w34.setCell ⟨go5, (x5_1 : Int).toNat * 7 + 4, none⟩ (.string t4))) ?hg ?ho ?hn ?hr ?_; (case ho => rfl); (case hg => rfl); (case hn => rfl); (case hr => first | (go_simp; done) | (go_simp; rfl)); intro w24 hw; have hg : w34.grownBy w24 (some go5) := (by rw [hw]; exact HP.out.2); have n0_ := Aside0.mk (show Kd.S k28 28 w24 w0.heap.size P0_ (.slice (some ⟨go5, 0, none⟩) x0_1.length co9) (x0_1.set (x5_1 : Int).toNat (⟨x1_1, (wrap64 (x1_1 + 1)), ⟨(wrap64 ((wrap64 (x1_1 + 1)) + 1)), (wrap64 ((wrap64 ((wrap64 (x1_1 + 1)) + 1)) + 1)), t4⟩, b5, b6⟩ : S28)) from (by rw [hw]; exact HP.out.1)); have n1_ := Aside0.mk ((by rw [hw]; exact below_set HB.out GB5.out : Below w0.heap.size w0 w24)); have n2_ := Aside0.mk (Kept.of_grown (S := P0_) hg (by repeat (first | (with_reducible first | exact HK.out | apply Kept.alloc | apply Kept.drewN | apply Kept.drew) | exact HK.out)) (fun k_ e_ => by cases e_; exact .inl G0.out)); clear HS HB HK HP hg hw hx_4 hf_4; have HS := n0_; have HB := n1_; have HK := n2_; clear n0_ n1_ n2_) | ((with_reducible refine gate_callee (f := 40) rfl ?_); refine gsL_ (some 54) Try.func40 #[.int .i64 (wrap64 ((wrap64 ((wrap64 ((wrap64 ((wrap64 (x1_1 + 1)) + 1)) + 1)) + 1)) + 1))] ?_; (with_reducible refine (laws_markText.calls k1 (wrap64 ((wrap64 ((wrap64 ((wrap64 ((wrap64 (x1_1 + 1)) + 1)) + 1)) + 1)) + 1)) t5 _ A2.out).mono ?_); rintro e w35 ⟨rfl, hb⟩; refine ⟨_, rfl, ?_⟩; have n0_ := Aside0.mk (Kd.S_below (by (with_reducible repeat (first | apply Kd.S_alloc | apply Kd.S_drewN | apply Kd.S_drew)); exact HS.out) hb); have n1_ := bs_ hb; have n2_ := Aside0.mk (Kept.below (by repeat (first | (with_reducible first | exact HK.out | apply Kept.alloc | apply Kept.drewN | apply Kept.drew) | exact HK.out)) hb); clear HS HB HK; have HS := n0_; have HB := n1_; have HK := n2_; clear n0_ n1_ n2_ hb; have hm_ := mark28 HS.out C4.out C3.out 5 (by decide) _ (.string t5) (⟨x1_1, (wrap64 (x1_1 + 1)), ⟨(wrap64 ((wrap64 (x1_1 + 1)) + 1)), (wrap64 ((wrap64 ((wrap64 (x1_1 + 1)) + 1)) + 1)), t4⟩, t5, b6⟩ : S28) (fun _ => rfl) rfl (fun _ => rfl); have hx_5 : w35.cell? ⟨go5, (x5_1 : Int).toNat * 7 + 5, none⟩ = some (.string b5) := hm_.1; have hf_5 : w35.frozen? ⟨go5, (x5_1 : Int).toNat * 7 + 5, none⟩ = false := hm_.2.1; have HP := Aside0.mk hm_.2.2; clear hm_) | ((with_reducible refine gate_store (t := 9) (p := 56) rfl ?_); refine store_event (t := 9) (p := 56) (v := ?vo_5) (w1 := (w35.setCell ⟨go5, (x5_1 : Int).toNat * 7 + 5, none⟩ (.string t5))) ?hg ?ho ?hn ?hr ?_; (case ho => rfl); (case hg => rfl); (case hn => rfl); (case hr => first | (go_simp; done) | (go_simp; rfl)); intro w25 hw; have hg : w35.grownBy w25 (some go5) := (by rw [hw]; exact HP.out.2); have n0_ := Aside0.mk (show Kd.S k28 28 w25 w0.heap.size P0_ (.slice (some ⟨go5, 0, none⟩) x0_1.length co9) (x0_1.set (x5_1 : Int).toNat (⟨x1_1, (wrap64 (x1_1 + 1)), ⟨(wrap64 ((wrap64 (x1_1 + 1)) + 1)), (wrap64 ((wrap64 ((wrap64 (x1_1 + 1)) + 1)) + 1)), t4⟩, t5, b6⟩ : S28)) from (by rw [hw]; exact HP.out.1)); have n1_ := Aside0.mk ((by rw [hw]; exact below_set HB.out GB5.out : Below w0.heap.size w0 w25)); have n2_ := Aside0.mk (Kept.of_grown (S := P0_) hg (by repeat (first | (with_reducible first | exact HK.out | apply Kept.alloc | apply Kept.drewN | apply Kept.drew) | exact HK.out)) (fun k_ e_ => by cases e_; exact .inl G0.out)); clear HS HB HK HP hg hw hx_5 hf_5; have HS := n0_; have HB := n1_; have HK := n2_; clear n0_ n1_ n2_; obtain ⟨oki, ce, hcl, hM, hcc, hfr, hoki, HH⟩ := Kd.S_elem HS.out z28 (x5_1 : Int) C4.out (by rw [show x0_1.length = x0_1.length from rfl]; exact C3.out); rw [show (x0_1.set (x5_1 : Int).toNat (⟨x1_1, (wrap64 (x1_1 + 1)), ⟨(wrap64 ((wrap64 (x1_1 + 1)) + 1)), (wrap64 ((wrap64 ((wrap64 (x1_1 + 1)) + 1)) + 1)), t4⟩, t5, b6⟩ : S28)).getD (x5_1 : Int).toNat z28 = (⟨x1_1, (wrap64 (x1_1 + 1)), ⟨(wrap64 ((wrap64 (x1_1 + 1)) + 1)), (wrap64 ((wrap64 ((wrap64 (x1_1 + 1)) + 1)) + 1)), t4⟩, t5, b6⟩ : S28) from by rw [List.getD_eq_getElem?_getD, List.getElem?_set_self (by have := C3.out; have := C4.out; omega)]; rfl] at hM; obtain ⟨v6, rfl, hR⟩ := k28_openM hM; obtain ⟨Av, cv, rfl⟩ := Kd.S_slice hR; have hx_6 : w25.cell? ⟨go5, (x5_1 : Int).toNat * 7 + 6, none⟩ = some (.slice Av b6.length cv) := hcc 6 _ rfl; have HHA := Aside0.mk HH; have HR := Aside0.mk (show Kd.S k28 28 w25 w0.heap.size oki (.slice Av b6.length cv) b6 from hR); have HOK := Aside0.mk hoki; clear hM hcc hfr hoki HH hR hcl HS) | ((with_reducible refine gate_callee (f := 12) rfl ?_); refine gsL_ (some 65) Try.func12 #[.slice Av b6.length cv, .int .i64 (wrap64 ((wrap64 ((wrap64 ((wrap64 ((wrap64 ((wrap64 (x1_1 + 1)) + 1)) + 1)) + 1)) + 1)) + 1))] ?_; (with_reducible refine (IH.out k1 (by have := HK1.out; omega) oki _ b6 (wrap64 ((wrap64 ((wrap64 ((wrap64 ((wrap64 ((wrap64 (x1_1 + 1)) + 1)) + 1)) + 1)) + 1)) + 1)) t6 m6 w0 _ bb_ (sk_ HR.out) A3.out).mono ?_); rintro e w40 ⟨rfl, hS2, hB2, hK2⟩; refine ⟨_, rfl, ?_⟩; have hH2 := Kd.H_kept (by (with_reducible repeat (first | apply Kd.H_alloc | apply Kd.H_drewN | apply Kd.H_drew)); exact HHA.out) hK2 (fun k_ _ hn hk => hn hk); have hl2 := (Kd.S_reads' hS2).1; rw [hl2] at hS2; have hM2 := k28_mkM w40 w0.heap.size oki (⟨x1_1, (wrap64 (x1_1 + 1)), ⟨(wrap64 ((wrap64 (x1_1 + 1)) + 1)), (wrap64 ((wrap64 ((wrap64 (x1_1 + 1)) + 1)) + 1)), t4⟩, t5, m6⟩ : S28) hS2; rw [← hl2] at hM2; have hp_ := Kd.H_back hH2 hM2 (fun _ hk => hk); rw [List.set_set] at hp_; have HS := Aside0.mk hp_; have n1_ := Aside0.mk hB2; have n2_ := Aside0.mk (Kept.then_ (by repeat (first | (with_reducible first | exact HK.out | apply Kept.alloc | apply Kept.drewN | apply Kept.drew) | exact HK.out)) hK2 (fun k_ hk => .inl (HOK.out k_ hk).1) : Kept w w40 P0_); clear HB HK; have HB := n1_; have HK := n2_; clear n1_ n2_ hB2 hK2 hH2 hM2 hS2 hl2 hp_ HHA HR))
     go_roundg k1
     case measure => have := HK1.out; omega
     case rel => exact ⟨_, t6, (wrap64 (x5_1 + 1)), rs_, rs_, H', ⟨by have := HK1.out; omega⟩, ⟨by (with_reducible repeat (first | apply Kd.S_alloc | apply Kd.S_drewN | apply Kd.S_drew)); exact HS.out⟩, ⟨by repeat (first | (with_reducible first | exact HK.out | apply Kept.alloc | apply Kept.drewN | apply Kept.drew) | exact HK.out)⟩, ⟨bb_⟩⟩
    ·rw [if_neg c4] at H
     exact absurd H (by simp)
   ·rw [if_neg c3] at H
    have c3b0 : decide (x5_1 < (x0_1.length : Int)) = false := decide_eq_false c3
    clear c3
    simp only [Option.some.injEq, Prod.mk.injEq] at H
    obtain ⟨rfl, rfl⟩ := H
    obtain ⟨Ao17, co17, eo17⟩ := Kd.S_slice HO_0.out
    subst eo17
    go_wp2
    go_ret
    exact ⟨by first | rfl | (simp [errW_none, errW_some] <;> rfl) | (simp [*, errW_none, errW_some] <;> rfl), by (with_reducible repeat (first | apply Kd.S_alloc | apply Kd.S_drewN | apply Kd.S_drew)); exact HO_0.out, by repeat (first | (with_reducible first | exact HB.out | apply below_alloc | apply pw_below_drewN | apply below_drew1) | exact HB.out), by repeat (first | (with_reducible first | exact HK.out | apply Kept.alloc | apply Kept.drewN | apply Kept.drew) | exact HK.out)⟩


/-! ### laws_markExp: function 13 -/
-- by hand
def laws_markExp.f (k : Nat) (a0_0 : Int) (a0_1 : Int) (a0_2 : Int) (a0_3 : Int) (a0_4 : ByteArray) (a0_5 : ByteArray) (l0_6 : List (S28)) (a1 : Int) : Option (Int × (List (S28))) := laws_markExpS.f k l0_6 a1
set_option maxHeartbeats 8000000 in
set_option maxRecDepth 100000 in
theorem laws_markExp.calls (k : Nat) (P0_ : Nat → Prop) (a0_0 : Int) (a0_1 : Int) (a0_2 : Int) (a0_3 : Int) (a0_4 : ByteArray) (a0_5 : ByteArray) (A0_6 : Option Addr) (n0_6 c0_6 : Nat) (l0_6 : List (S28)) (a1 : Int) (r1 : Int) (r2 : List (S28)) (w0 w : World) (hB : Below w0.heap.size w0 w) (ho0 : Kd.S k28 28 w w0.heap.size P0_ (.slice A0_6 n0_6 c0_6) l0_6) (h : laws_markExp.f k a0_0 a0_1 a0_2 a0_3 a0_4 a0_5 l0_6 a1 = some (r1, r2)) :
  Calls Try.prog 13 #[.agg #[.int .i64 a0_0, .int .i64 a0_1, .int .i64 a0_2, .int .i64 a0_3, .string a0_4, .string a0_5, .slice A0_6 n0_6 c0_6], .int .i64 a1] w fun e w' => e = .returned (.int .i64 r1) ∧ Kd.S k28 28 w' w0.heap.size P0_ (.slice A0_6 n0_6 c0_6) r2 ∧ Below w0.heap.size w0 w' ∧ Kept w w' P0_ := by
 have HS := Aside0.mk ho0
 have HB := Aside0.mk hB
 have HK := Aside0.mk (Kept.refl w P0_)
 clear hB ho0
 have A1 := Aside0.mk (show laws_markExpS.f k l0_6 a1 = some (r1, r2) from h)
 clear h
 have hu28 := Try.underlying28
 go_enter Try.func13, Try.ntmps13
 go_wp2_with (first | ((with_reducible refine gate_dst (N := 2) rfl ?_); refine bx_ 2 #[.int .i64 a0_0, .int .i64 a0_1, .int .i64 a0_2, .int .i64 a0_3, .string a0_4, .string a0_5, .slice A0_6 n0_6 c0_6] 28 ?_; intro gb359 hg w5 hbox hb; have BK359 := Aside0.mk (hbox); have GW359 := gw_ hg; have GE359 := gw_ hg; have n0_ := Aside0.mk (Kd.S_below (by (with_reducible repeat (first | apply Kd.S_alloc | apply Kd.S_drewN | apply Kd.S_drew)); exact HS.out) hb); have n1_ := bs_ hb; have n2_ := Aside0.mk (Kept.below (by repeat (first | (with_reducible first | exact HK.out | apply Kept.alloc | apply Kept.drewN | apply Kept.drew) | exact HK.out)) hb); clear HS HB HK; have HS := n0_; have HB := n1_; have HK := n2_; clear n0_ n1_ n2_ hb hbox hg; obtain ⟨hcz6_0, hcz6_1, hcz6_2, hcz6_3, hcz6_4, hcz6_5, hcz6_6, hfz6_0, hfz6_1, hfz6_2, hfz6_3, hfz6_4, hfz6_5, hfz6_6⟩ := b7_ BK359) | ((with_reducible refine gate_callee (f := 12) rfl ?_); refine gsL_ (some 8) Try.func12 #[.slice A0_6 n0_6 c0_6, .int .i64 a1] ?_; (with_reducible refine (laws_markExpS.calls k P0_ _ l0_6 a1 r1 r2 w0 _ bb_ (sk_ HS.out) A1.out).mono ?_); rintro e w7 ⟨rfl, hS2, hB2, hK2⟩; refine ⟨_, rfl, ?_⟩; have n1_ := Aside0.mk hB2; have n2_ := Aside0.mk (Kept.then_ (by repeat (first | (with_reducible first | exact HK.out | apply Kept.alloc | apply Kept.drewN | apply Kept.drew) | exact HK.out)) hK2 (fun k_ hk => .inl hk) : Kept w w7 P0_); clear HS HB HK; have HS := Aside0.mk hS2; have HB := n1_; have HK := n2_; clear n1_ n2_ hB2 hK2 hS2))
 go_ret
 exact ⟨by first | rfl | (simp [errW_none, errW_some] <;> rfl), by (with_reducible repeat (first | apply Kd.S_alloc | apply Kd.S_drewN | apply Kd.S_drew)); exact HS.out, by repeat (first | (with_reducible first | exact HB.out | apply below_alloc | apply pw_below_drewN | apply below_drew1) | exact HB.out), by repeat (first | (with_reducible first | exact HK.out | apply Kept.alloc | apply Kept.drewN | apply Kept.drew) | exact HK.out)⟩


end Go.Proofs.Ytapgfamppnhnmaa.PFnExactAndAll
