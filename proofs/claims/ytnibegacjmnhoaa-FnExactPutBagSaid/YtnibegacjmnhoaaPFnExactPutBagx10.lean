-- WRITTEN BY xprint.py, a program of this session over the kit's printer: by nobody's hand
-- PRESSED
import Derived.Test.YtnibegacjmnhoaaPress
import Derived.Test.YtnibegacjmnhoaaPFnExactPutBagx0
import Derived.Test.YtnibegacjmnhoaaPFnExactPutBagx1
import Derived.Test.YtnibegacjmnhoaaPFnExactPutBagx4
import Derived.Test.YtnibegacjmnhoaaPFnExactPutBagx5
import Derived.Test.YtnibegacjmnhoaaPFnExactPutBagx8
import Derived.Test.YtnibegacjmnhoaaPFnExactPutBagx9
namespace Go.Proofs.Ytnibegacjmnhoaa.PFnExactPutBag
open Go.RowKit Go.Proofs.YtnibegacjmnhoaaW.PrintWords Go.Proofs.YtnibegacjmnhoaaW.PrintLast Go.Proofs.YtnibegacjmnhoaaW.PrintMore
set_option linter.unusedVariables false
set_option linter.unusedSimpArgs false

/-! ### laws_eqBag: function 9 -/
def laws_eqBag.f (k : Nat) (a0_0 : Int) (l0_1 : List (S46)) (a1_0 : Int) (l1_1 : List (S46)) : Option (Bool) := if a0_0 = a1_0 then ((laws_eqCountedS.f k l0_1 l1_1).bind fun t219 => (if t219 = true then (some true) else (some false))) else (some false)
set_option maxHeartbeats 8000000 in
set_option maxRecDepth 100000 in
theorem laws_eqBag.calls (k : Nat) (a0_0 : Int) (A0_1 : Option Addr) (c0_1 : Nat) (l0_1 : List (S46)) (a1_0 : Int) (A1_1 : Option Addr) (c1_1 : Nat) (l1_1 : List (S46)) (r : Bool) (w : World) (hr0_1 : Kd.C k46 w A0_1 l0_1.length l0_1) (hc0_1 : l0_1.length ≤ c0_1) (hr1_1 : Kd.C k46 w A1_1 l1_1.length l1_1) (hc1_1 : l1_1.length ≤ c1_1) (h : laws_eqBag.f k a0_0 l0_1 a1_0 l1_1 = some r) :
  Calls Try.prog 9 #[.agg #[.int .i64 a0_0, .slice A0_1 l0_1.length c0_1], .agg #[.int .i64 a1_0, .slice A1_1 l1_1.length c1_1]] w fun e w' => e = .returned (.bool r) ∧ Below w.heap.size w w' := by
 have hu29 := Try.underlying29
 have HR0_1 := Aside0.mk hr0_1
 have HC0_1 := Aside0.mk hc0_1
 clear hr0_1 hc0_1
 have HR1_1 := Aside0.mk hr1_1
 have HC1_1 := Aside0.mk hc1_1
 clear hr1_1 hc1_1
 have HB := Aside0.mk (Below.refl w.heap.size w)
 have H : (if a0_0 = a1_0 then ((laws_eqCountedS.f k l0_1 l1_1).bind fun t219 => (if t219 = true then (some true) else (some false))) else (some false)) = some r := h
 clear h
 by_cases c3 : a0_0 = a1_0
 ·rw [if_pos c3] at H
  have c3b0 : (a0_0 == a1_0) = true := beq_iff_eq.mpr c3
  have c3b1 : (a0_0 != a1_0) = false := bne_eq_false_iff_eq.mpr c3
  clear c3
  replace H := Option.bind_eq_some_iff.mp H
  obtain ⟨t219, A40, H⟩ := H
  replace H : (if t219 = true then (some true) else (some false)) = some r := H
  have A4 := Aside0.mk A40
  clear A40
  by_cases c5 : t219 = true
  ·subst c5
   have H1 : (some true) = some r := by rw [if_pos rfl] at H; exact H
   clear H
   have H := H1
   clear H1
   obtain rfl := Option.some.inj H
   go_enter Try.func9, Try.ntmps9
   go_wp2_with (first | ((with_reducible refine gate_dst (N := 2) rfl ?_); refine bx_ 2 #[.int .i64 a0_0, .slice A0_1 l0_1.length c0_1] 29 ?_; intro gb217 hg w6 hbox hb; have BK217 := Aside0.mk (hbox); have GW217 := gw_ hg; have GE217 := gw_ hg; replace HB := bs_ hb; clear hb hbox hg) | ((with_reducible refine gate_dst (N := 3) rfl ?_); refine bx_ 3 #[.int .i64 a1_0, .slice A1_1 l1_1.length c1_1] 29 ?_; intro gb218 hg w7 hbox hb; have BK218 := Aside0.mk (hbox); have GW218 := gw_ hg; have GE218 := gw_ hg; have NB217_218 := nl_ hg BK217; have NB218_217 := ng_ hg BK217; replace BK217 := bkb_ BK217 hb; replace HB := bs_ hb; clear hb hbox hg; have hnb8 := NB217_218.out; have hnc8 := NB218_217.out; obtain ⟨hcz9_0, hcz9_1, hfz9_0, hfz9_1⟩ := b2_ BK217; obtain ⟨hcz10_0, hcz10_1, hfz10_0, hfz10_1⟩ := b2_ BK218) | ((with_reducible refine gate_callee (f := 25) rfl ?_); refine gsL_ (some 14) Try.func25 #[.slice A0_1 l0_1.length c0_1, .slice A1_1 l1_1.length c1_1] ?_; (with_reducible refine (laws_eqCountedS.calls k _ _ l0_1 _ _ l1_1 true _ ?side1 ?side2 ?side3 ?side4 A4.out).mono ?_); (case side1 => exact ck_ (Kd.C_below HR0_1.out HB.out)); (case side2 => exact HC0_1.out); (case side3 => exact ck_ (Kd.C_below HR1_1.out HB.out)); (case side4 => exact HC1_1.out); rintro e w11 ⟨rfl, hb⟩; refine ⟨_, rfl, ?_⟩; replace BK217 := bkb_ BK217 hb; replace BK218 := bkb_ BK218 hb; replace HB := bs_ hb; (try clear hb); (try clear hb2); (try clear hk); (try clear hi)))
   go_ret
   exact ⟨er_, bb_⟩
  ·replace c5 := Bool.eq_false_iff.mpr c5
   subst c5
   have H1 : (some false) = some r := by rw [if_neg (show ¬ (false = true) by decide)] at H; exact H
   clear H
   have H := H1
   clear H1
   obtain rfl := Option.some.inj H
   go_enter Try.func9, Try.ntmps9
   go_wp2_with (first | ((with_reducible refine gate_dst (N := 2) rfl ?_); refine bx_ 2 #[.int .i64 a0_0, .slice A0_1 l0_1.length c0_1] 29 ?_; intro gb217 hg w12 hbox hb; have BK217 := Aside0.mk (hbox); have GW217 := gw_ hg; have GE217 := gw_ hg; replace HB := bs_ hb; clear hb hbox hg) | ((with_reducible refine gate_dst (N := 3) rfl ?_); refine bx_ 3 #[.int .i64 a1_0, .slice A1_1 l1_1.length c1_1] 29 ?_; intro gb218 hg w13 hbox hb; have BK218 := Aside0.mk (hbox); have GW218 := gw_ hg; have GE218 := gw_ hg; have NB217_218 := nl_ hg BK217; have NB218_217 := ng_ hg BK217; replace BK217 := bkb_ BK217 hb; replace HB := bs_ hb; clear hb hbox hg; have hnb14 := NB217_218.out; have hnc14 := NB218_217.out; obtain ⟨hcz15_0, hcz15_1, hfz15_0, hfz15_1⟩ := b2_ BK217; obtain ⟨hcz16_0, hcz16_1, hfz16_0, hfz16_1⟩ := b2_ BK218) | ((with_reducible refine gate_callee (f := 25) rfl ?_); refine gsL_ (some 14) Try.func25 #[.slice A0_1 l0_1.length c0_1, .slice A1_1 l1_1.length c1_1] ?_; (with_reducible refine (laws_eqCountedS.calls k _ _ l0_1 _ _ l1_1 false _ ?side1 ?side2 ?side3 ?side4 A4.out).mono ?_); (case side1 => exact ck_ (Kd.C_below HR0_1.out HB.out)); (case side2 => exact HC0_1.out); (case side3 => exact ck_ (Kd.C_below HR1_1.out HB.out)); (case side4 => exact HC1_1.out); rintro e w17 ⟨rfl, hb⟩; refine ⟨_, rfl, ?_⟩; replace BK217 := bkb_ BK217 hb; replace BK218 := bkb_ BK218 hb; replace HB := bs_ hb; (try clear hb); (try clear hb2); (try clear hk); (try clear hi)))
   go_ret
   exact ⟨er_, bb_⟩
 ·rw [if_neg c3] at H
  have c3b0 : (a0_0 == a1_0) = false := beq_eq_false_iff_ne.mpr c3
  have c3b1 : (a0_0 != a1_0) = true := bne_iff_ne.mpr c3
  obtain rfl := Option.some.inj H
  go_enter Try.func9, Try.ntmps9
  go_wp2_with (first | ((with_reducible refine gate_dst (N := 2) rfl ?_); refine bx_ 2 #[.int .i64 a0_0, .slice A0_1 l0_1.length c0_1] 29 ?_; intro gb217 hg w18 hbox hb; have BK217 := Aside0.mk (hbox); have GW217 := gw_ hg; have GE217 := gw_ hg; replace HB := bs_ hb; clear hb hbox hg) | ((with_reducible refine gate_dst (N := 3) rfl ?_); refine bx_ 3 #[.int .i64 a1_0, .slice A1_1 l1_1.length c1_1] 29 ?_; intro gb218 hg w19 hbox hb; have BK218 := Aside0.mk (hbox); have GW218 := gw_ hg; have GE218 := gw_ hg; have NB217_218 := nl_ hg BK217; have NB218_217 := ng_ hg BK217; replace BK217 := bkb_ BK217 hb; replace HB := bs_ hb; clear hb hbox hg; have hnb20 := NB217_218.out; have hnc20 := NB218_217.out; obtain ⟨hcz21_0, hcz21_1, hfz21_0, hfz21_1⟩ := b2_ BK217; obtain ⟨hcz22_0, hcz22_1, hfz22_0, hfz22_1⟩ := b2_ BK218))
  go_ret
  exact ⟨er_, bb_⟩

/-! ### laws_FnExactPutBag: function 3 -/
def laws_FnExactPutBag.f (k : Nat) (a0_0 : Int) (l0_1 : List (S69)) : Option (Bool) := (laws_szBag.f k a0_0 l0_1 1048576).bind fun t221 => (if t221 < 0 then (some true) else ((laws_toBag.f k a0_0 l0_1).bind fun bt222 => ((spec_PutBag.f k bt222.1 bt222.2).bind fun t226 => ((laws_toBag.f k a0_0 l0_1).bind fun bt227 => ((impl_PutBag.f k bt227.1 bt227.2).bind fun t232 => (if t232.toList = t226.toList then ((laws_toBag.f k a0_0 l0_1).bind fun bt233 => ((laws_eqBag.f k bt227.1 bt227.2 bt233.1 bt233.2).bind fun t237 => (if t237 = true then (some true) else (some false)))) else (some false)))))))
set_option maxHeartbeats 8000000 in
set_option maxRecDepth 100000 in
theorem laws_FnExactPutBag.calls (k : Nat) (a0_0 : Int) (A0_1 : Option Addr) (c0_1 : Nat) (l0_1 : List (S69)) (r : Bool) (w : World) (hr0_1 : Kd.C k69 w A0_1 l0_1.length l0_1) (hc0_1 : l0_1.length ≤ c0_1) (h : laws_FnExactPutBag.f k a0_0 l0_1 = some r) :
  Calls Try.prog 3 #[.agg #[.int .i64 a0_0, .slice A0_1 l0_1.length c0_1]] w fun e w' => e = .returned (.bool r) ∧ Below w.heap.size w w' := by
 have hu24 := Try.underlying24
 have hu29 := Try.underlying29
 have HR0_1 := Aside0.mk hr0_1
 have HC0_1 := Aside0.mk hc0_1
 clear hr0_1 hc0_1
 have HB := Aside0.mk (Below.refl w.heap.size w)
 have H : ((laws_szBag.f k a0_0 l0_1 1048576).bind fun t221 => (if t221 < 0 then (some true) else ((laws_toBag.f k a0_0 l0_1).bind fun bt222 => ((spec_PutBag.f k bt222.1 bt222.2).bind fun t226 => ((laws_toBag.f k a0_0 l0_1).bind fun bt227 => ((impl_PutBag.f k bt227.1 bt227.2).bind fun t232 => (if t232.toList = t226.toList then ((laws_toBag.f k a0_0 l0_1).bind fun bt233 => ((laws_eqBag.f k bt227.1 bt227.2 bt233.1 bt233.2).bind fun t237 => (if t237 = true then (some true) else (some false)))) else (some false)))))))) = some r := h
 clear h
 replace H := Option.bind_eq_some_iff.mp H
 obtain ⟨t221, A20, H⟩ := H
 replace H : (if t221 < 0 then (some true) else ((laws_toBag.f k a0_0 l0_1).bind fun bt222 => ((spec_PutBag.f k bt222.1 bt222.2).bind fun t226 => ((laws_toBag.f k a0_0 l0_1).bind fun bt227 => ((impl_PutBag.f k bt227.1 bt227.2).bind fun t232 => (if t232.toList = t226.toList then ((laws_toBag.f k a0_0 l0_1).bind fun bt233 => ((laws_eqBag.f k bt227.1 bt227.2 bt233.1 bt233.2).bind fun t237 => (if t237 = true then (some true) else (some false)))) else (some false))))))) = some r := H
 have A2 := Aside0.mk A20
 clear A20
 by_cases c3 : t221 < 0
 ·rw [if_pos c3] at H
  have c3b0 : decide (t221 < 0) = true := decide_eq_true c3
  clear c3
  obtain rfl := Option.some.inj H
  go_enter Try.func3, Try.ntmps3
  go_wp2_with (first | ((with_reducible refine gate_dst (N := 1) rfl ?_); refine bx_ 1 #[.int .i64 a0_0, .slice A0_1 l0_1.length c0_1] 24 ?_; intro gb220 hg w4 hbox hb; have BK220 := Aside0.mk (hbox); have GW220 := gw_ hg; have GE220 := gw_ hg; replace HB := bs_ hb; clear hb hbox hg; obtain ⟨hcz5_0, hcz5_1, hfz5_0, hfz5_1⟩ := b2_ BK220) | ((with_reducible refine gate_callee (f := 5) rfl ?_); refine gsL_ (some 9) Try.func5 #[.agg #[.int .i64 a0_0, .slice A0_1 l0_1.length c0_1], .int .i64 1048576] ?_; (with_reducible refine (laws_szBag.calls k a0_0 _ _ l0_1 1048576 t221 _ ?side1 ?side2 A2.out).mono ?_); (case side1 => exact ck_ (Kd.C_below HR0_1.out HB.out)); (case side2 => exact HC0_1.out); rintro e w6 ⟨rfl, hb⟩; refine ⟨_, rfl, ?_⟩; replace BK220 := bkb_ BK220 hb; replace HB := bs_ hb; (try clear hb); (try clear hb2); (try clear hk); (try clear hi)))
  go_ret
  exact ⟨er_, bb_⟩
 ·rw [if_neg c3] at H
  have c3b0 : decide (t221 < 0) = false := decide_eq_false c3
  clear c3
  replace H := Option.bind_eq_some_iff.mp H
  obtain ⟨⟨t222, t223⟩, A70, H⟩ := H
  replace H : ((spec_PutBag.f k t222 t223).bind fun t226 => ((laws_toBag.f k a0_0 l0_1).bind fun bt227 => ((impl_PutBag.f k bt227.1 bt227.2).bind fun t232 => (if t232.toList = t226.toList then ((laws_toBag.f k a0_0 l0_1).bind fun bt233 => ((laws_eqBag.f k bt227.1 bt227.2 bt233.1 bt233.2).bind fun t237 => (if t237 = true then (some true) else (some false)))) else (some false))))) = some r := H
  have A7 := Aside0.mk A70
  clear A70
  replace H := Option.bind_eq_some_iff.mp H
  obtain ⟨t226, A80, H⟩ := H
  replace H : ((laws_toBag.f k a0_0 l0_1).bind fun bt227 => ((impl_PutBag.f k bt227.1 bt227.2).bind fun t232 => (if t232.toList = t226.toList then ((laws_toBag.f k a0_0 l0_1).bind fun bt233 => ((laws_eqBag.f k bt227.1 bt227.2 bt233.1 bt233.2).bind fun t237 => (if t237 = true then (some true) else (some false)))) else (some false)))) = some r := H
  have A8 := Aside0.mk A80
  clear A80
  replace H := Option.bind_eq_some_iff.mp H
  obtain ⟨⟨t227, t228⟩, A90, H⟩ := H
  replace H : ((impl_PutBag.f k t227 t228).bind fun t232 => (if t232.toList = t226.toList then ((laws_toBag.f k a0_0 l0_1).bind fun bt233 => ((laws_eqBag.f k t227 t228 bt233.1 bt233.2).bind fun t237 => (if t237 = true then (some true) else (some false)))) else (some false))) = some r := H
  have A9 := Aside0.mk A90
  clear A90
  replace H := Option.bind_eq_some_iff.mp H
  obtain ⟨t232, A100, H⟩ := H
  replace H : (if t232.toList = t226.toList then ((laws_toBag.f k a0_0 l0_1).bind fun bt233 => ((laws_eqBag.f k t227 t228 bt233.1 bt233.2).bind fun t237 => (if t237 = true then (some true) else (some false)))) else (some false)) = some r := H
  have A10 := Aside0.mk A100
  clear A100
  by_cases c11 : t232.toList = t226.toList
  ·rw [if_pos c11] at H
   have c11b0 : (t232.toList == t226.toList) = true := beq_iff_eq.mpr c11
   have c11b1 : (t232.toList != t226.toList) = false := bne_eq_false_iff_eq.mpr c11
   clear c11
   replace H := Option.bind_eq_some_iff.mp H
   obtain ⟨⟨t233, t234⟩, A120, H⟩ := H
   replace H : ((laws_eqBag.f k t227 t228 t233 t234).bind fun t237 => (if t237 = true then (some true) else (some false))) = some r := H
   have A12 := Aside0.mk A120
   clear A120
   replace H := Option.bind_eq_some_iff.mp H
   obtain ⟨t237, A130, H⟩ := H
   replace H : (if t237 = true then (some true) else (some false)) = some r := H
   have A13 := Aside0.mk A130
   clear A130
   by_cases c14 : t237 = true
   ·subst c14
    have H1 : (some true) = some r := by rw [if_pos rfl] at H; exact H
    clear H
    have H := H1
    clear H1
    obtain rfl := Option.some.inj H
    go_enter Try.func3, Try.ntmps3
    try go_wp2_with (first | ((with_reducible refine gate_dst (N := 1) rfl ?_); refine bx_ 1 #[.int .i64 a0_0, .slice A0_1 l0_1.length c0_1] 24 ?_; intro gb220 hg w15 hbox hb; have BK220 := Aside0.mk (hbox); have GW220 := gw_ hg; have GE220 := gw_ hg; replace HB := bs_ hb; clear hb hbox hg; obtain ⟨hcz16_0, hcz16_1, hfz16_0, hfz16_1⟩ := b2_ BK220) | ((with_reducible refine gate_callee (f := 5) rfl ?_); refine gsL_ (some 9) Try.func5 #[.agg #[.int .i64 a0_0, .slice A0_1 l0_1.length c0_1], .int .i64 1048576] ?_; (with_reducible refine (laws_szBag.calls k a0_0 _ _ l0_1 1048576 t221 _ ?side1 ?side2 A2.out).mono ?_); (case side1 => exact ck_ (Kd.C_below HR0_1.out HB.out)); (case side2 => exact HC0_1.out); rintro e w17 ⟨rfl, hb⟩; refine ⟨_, rfl, ?_⟩; replace BK220 := bkb_ BK220 hb; replace HB := bs_ hb; (try clear hb); (try clear hb2); (try clear hk); (try clear hi); obtain ⟨hcz18_0, hcz18_1, hfz18_0, hfz18_1⟩ := b2_ BK220) | ((with_reducible refine gate_callee (f := 7) rfl ?_); refine gsL_ (some 13) Try.func7 #[.agg #[.int .i64 a0_0, .slice A0_1 l0_1.length c0_1]] ?_; (with_reducible refine (laws_toBag.calls k a0_0 _ _ l0_1 t222 t223 _ ?side1 ?side2 A7.out).mono ?_); (case side1 => exact ck_ (Kd.C_below HR0_1.out HB.out)); (case side2 => exact HC0_1.out); rintro e w19 ⟨v224, rfl, ho0, hb⟩; refine ⟨_, rfl, ?_⟩; have HO225 := Aside0.mk (Kd.S_lower ho0 (below_size bb_)); replace BK220 := bkb_ BK220 hb; replace HB := bs_ hb; (try clear hb); (try clear hb2); (try clear hk); (try clear hi); (try clear ho0); obtain ⟨Ao20, co20, eo20⟩ := Kd.S_slice HO225.out; subst eo20) | ((with_reducible refine gate_callee (f := 6) rfl ?_); refine gsL_ (some 14) Try.func6 #[.agg #[.int .i64 t222, .slice Ao20 t223.length co20]] ?_; (with_reducible refine (spec_PutBag.calls k t222 _ _ t223 t226 _ ?side1 ?side2 A8.out).mono ?_); (case side1 => exact ck_ (Kd.S_reads' HO225.out).2.2); (case side2 => exact (Kd.S_reads' HO225.out).2.1); rintro e w21 ⟨rfl, hb⟩; refine ⟨_, rfl, ?_⟩; replace HO225 := Aside0.mk (Kd.S_below (sk_ HO225.out) hb); replace BK220 := bkb_ BK220 hb; replace HB := bs_ hb; (try clear hb); (try clear hb2); (try clear hk); (try clear hi); obtain ⟨hcz22_0, hcz22_1, hfz22_0, hfz22_1⟩ := b2_ BK220) | ((with_reducible refine gate_callee (f := 7) rfl ?_); refine gsL_ (some 16) Try.func7 #[.agg #[.int .i64 a0_0, .slice A0_1 l0_1.length c0_1]] ?_; (with_reducible refine (laws_toBag.calls k a0_0 _ _ l0_1 t227 t228 _ ?side1 ?side2 A9.out).mono ?_); (case side1 => exact ck_ (Kd.C_below HR0_1.out HB.out)); (case side2 => exact HC0_1.out); rintro e w23 ⟨v229, rfl, ho0, hb⟩; refine ⟨_, rfl, ?_⟩; have HO230 := Aside0.mk (Kd.S_lower (Kd.S_new' ho0 (Kd.S_lt (sk_ HO225.out))) (below_size bb_)); replace HO225 := Aside0.mk (Kd.S_elder' (sk_ HO225.out) (Kd.S_base ho0) hb); replace BK220 := bkb_ BK220 hb; replace HB := bs_ hb; (try clear hb); (try clear hb2); (try clear hk); (try clear hi); (try clear ho0)) | ((with_reducible refine gate_dst (N := 5) rfl ?_); refine bx_ 5 #[.int .i64 0, .slice none 0 0] 29 ?_; intro gb231 hg w24 hbox hb; have BK231 := Aside0.mk (hbox); have GW231 := gw_ hg; have GE231 := gw_ hg; have NB220_231 := nl_ hg BK220; have NB231_220 := ng_ hg BK220; replace HO225 := Aside0.mk (Kd.S_below (sk_ HO225.out) hb); replace HO230 := Aside0.mk (Kd.S_below (sk_ HO230.out) hb); replace BK220 := bkb_ BK220 hb; replace HB := bs_ hb; clear hb hbox hg; have hnb25 := NB231_220.out; have hnc25 := NB220_231.out; obtain ⟨hcz26_0, hcz26_1, hfz26_0, hfz26_1⟩ := b2_ BK231; obtain ⟨Ao27, co27, eo27⟩ := Kd.S_slice HO230.out; subst eo27) | ((with_reducible refine gate_callee (f := 8) rfl ?_); refine gsL_ (some 18) Try.func8 #[.agg #[.int .i64 t227, .slice Ao27 t228.length co27]] ?_; (with_reducible refine (impl_PutBag.calls k t227 _ _ t228 t232 _ ?side1 ?side2 A10.out).mono ?_); (case side1 => refine (Kd.S_reads' (e := 46) (base := w.heap.size) (ok := fun k_ => (True ∧ some k_ ≠ (.slice Ao20 t223.length co20 : Value).ownBlock)) (n := t228.length) (c := co27) ?_).2.2; exact (sk_ (Kd.S_mono (Kd.S_far (p := ⟨gb231, 1, none⟩) (Kd.S_far (p := ⟨gb231, 0, none⟩) (Kd.S_types HO230.out BK231.out (by decide)) (fun _ hk => hk.2) (.int .i64 t227)) (fun _ hk => hk.2) (.slice Ao27 t228.length co27)) (fun _ h_ => h_.1)))); (case side2 => exact (Kd.S_reads' HO230.out).2.1); rintro e w28 ⟨rfl, hb⟩; refine ⟨_, rfl, ?_⟩; have n0_ := Aside0.mk (Kd.S_below (sk_ (Kd.S_mono (Kd.S_far (p := ⟨gb231, 1, none⟩) (Kd.S_far (p := ⟨gb231, 0, none⟩) (Kd.S_types HO225.out BK231.out (by decide)) (fun _ hk => hk.2) (.int .i64 t227)) (fun _ hk => hk.2) (.slice Ao27 t228.length co27)) (fun _ h_ => h_.1))) hb); have n1_ := Aside0.mk (Kd.S_below (sk_ (Kd.S_mono (Kd.S_far (p := ⟨gb231, 1, none⟩) (Kd.S_far (p := ⟨gb231, 0, none⟩) (Kd.S_types HO230.out BK231.out (by decide)) (fun _ hk => hk.2) (.int .i64 t227)) (fun _ hk => hk.2) (.slice Ao27 t228.length co27)) (fun _ h_ => h_.1))) hb); have n2_ := Aside0.mk (blk_below (g := gb220) (o := .cells #[.int .i64 a0_0, .slice A0_1 l0_1.length c0_1] 24 (0, 0)) (bf2_ NB220_231 (bkx_ BK220.out)) hb); have n3_ := Aside0.mk (blk_below (g := gb231) (o := .cells #[.int .i64 t227, .slice Ao27 t228.length co27] 29 (0, 0)) (bp2_ (bkx_ BK231.out)) hb); have n4_ := bs_ hb; clear HO225; clear HO230; clear BK220; clear BK231; clear HB; have HO225 := n0_; have HO230 := n1_; have BK220 := n2_; have BK231 := n3_; have HB := n4_; clear n0_ n1_ n2_ n3_ n4_; (try clear hb); (try clear hb2); (try clear hk); (try clear hi)))
    replace HO225 := Aside0.mk (Kd.S_drew HO225.out)
    replace HO230 := Aside0.mk (Kd.S_drew HO230.out)
    replace BK220 := Aside0.mk (blk_drew BK220.out)
    replace BK231 := Aside0.mk (blk_drew BK231.out)
    replace HB := Aside0.mk (below_drew1 HB.out)
    refine start_ (n := 5) (S := fun w' => w'.cell? ⟨gb231, 0, none⟩ = some (.int .i64 t227) ∧ w'.cell? ⟨gb231, 1, none⟩ = some (.slice Ao27 t228.length co27) ∧ w'.cell? ⟨gb220, 0, none⟩ = some (.int .i64 a0_0) ∧ w'.cell? ⟨gb220, 1, none⟩ = some (.slice A0_1 l0_1.length c0_1)) (ds := []) (tf 0 5) (by kernel_rfl) rfl rfl ⟨bc_ BK231 0, bc_ BK231 1, bc_ BK220 0, bc_ BK220 1⟩ (fun hHeld => ?_)
    generalize w28.drew = w29 at HO225 HO230 BK220 BK231 HB hHeld ⊢
    refine take_ (i := 0) (N := some 22) (v := ?_) (a' := ?_) (tf 1 4) rfl rfl (by kernel_rfl) (fun _ _ _ h => h) (Or.inl ⟨by rfl, ?_⟩) hHeld ?_ ?_
    rotate_left
    ·rintro w' ⟨s0, s1, s2, s3⟩
     go_simp
     with_reducible rfl
    rotate_left
    ·simp only [Act.put, List.setIfInBounds_toArray, List.set_cons_zero, List.set_cons_succ, i64_w, i32_w]
     rfl
    refine take_ (i := 1) (N := some 23) (v := ?_) (a' := ?_) (tf 2 3) rfl rfl (by kernel_rfl) (fun _ _ _ h => h) (Or.inl ⟨by rfl, ?_⟩) hHeld ?_ ?_
    rotate_left
    ·rintro w' ⟨s0, s1, s2, s3⟩
     go_simp
     with_reducible rfl
    rotate_left
    ·simp only [Act.put, List.setIfInBounds_toArray, List.set_cons_zero, List.set_cons_succ, i64_w, i32_w]
     rfl
    refine one_ (i := 2) (N := some 24) (tf 3 2) rfl rfl (by kernel_rfl) (by decide) (fun K hK => ?_)
    refine gs_ Try.func7 #[.agg #[.int .i64 a0_0, .slice A0_1 l0_1.length c0_1]] ?_
    with_reducible refine (laws_toBag.calls k a0_0 _ _ l0_1 t233 t234 _ ?side1 ?side2 A12.out).mono ?_
    (case side1 => exact ck_ (Kd.C_below HR0_1.out HB.out))
    (case side2 => exact HC0_1.out)
    rintro e w30 ⟨v235, rfl, ho0, hb⟩
    refine ⟨_, rfl, ?_⟩
    have HO236 := Aside0.mk (Kd.S_lower (Kd.S_new' (Kd.S_new' ho0 (Kd.S_lt (sk_ HO225.out))) (Kd.S_lt (sk_ HO230.out))) (below_size bb_))
    replace HO225 := Aside0.mk (Kd.S_elder' (sk_ HO225.out) (Kd.S_base ho0) hb)
    replace HO230 := Aside0.mk (Kd.S_elder' (sk_ HO230.out) (Kd.S_base ho0) hb)
    replace BK220 := bkb_ BK220 hb
    replace BK231 := bkb_ BK231 hb
    replace HB := bs_ hb
    (try clear hb)
    (try clear hb2)
    (try clear hk)
    (try clear hi)
    (try clear ho0)
    obtain ⟨Ao31, co31, eo31⟩ := Kd.S_slice HO236.out
    (first | subst eo31 | (injection eo31 with f1_ f2_ f3_; have f4_ := f1_.symm; have f5_ := f3_.symm; clear f1_ f2_ f3_; subst f4_; subst f5_))
    refine hK.out _ _ ⟨bc_ BK231 0, bc_ BK231 1, bc_ BK220 0, bc_ BK220 1⟩ (fun hHeld => ?_)
    clear hK K
    refine nm_ ?_
    refine one_ (i := 3) (N := some 25) (tf 4 1) rfl rfl (by kernel_rfl) (by decide) (fun K hK => ?_)
    refine gs_ Try.func9 #[.agg #[.int .i64 t227, .slice Ao27 t228.length co27], .agg #[.int .i64 t233, .slice Ao31 t234.length co31]] ?_
    with_reducible refine (laws_eqBag.calls k t227 _ _ t228 t233 _ _ t234 true _ ?side1 ?side2 ?side3 ?side4 A13.out).mono ?_
    (case side1 => exact ck_ (Kd.S_reads' HO230.out).2.2)
    (case side2 => exact (Kd.S_reads' HO230.out).2.1)
    (case side3 => exact ck_ (Kd.S_reads' HO236.out).2.2)
    (case side4 => exact (Kd.S_reads' HO236.out).2.1)
    rintro e w32 ⟨rfl, hb⟩
    refine ⟨_, rfl, ?_⟩
    replace HO225 := Aside0.mk (Kd.S_below (sk_ HO225.out) hb)
    replace HO230 := Aside0.mk (Kd.S_below (sk_ HO230.out) hb)
    replace HO236 := Aside0.mk (Kd.S_below (sk_ HO236.out) hb)
    replace BK220 := bkb_ BK220 hb
    replace BK231 := bkb_ BK231 hb
    replace HB := bs_ hb
    (try clear hb)
    (try clear hb2)
    (try clear hk)
    (try clear hi)
    refine hK.out _ _ ⟨bc_ BK231 0, bc_ BK231 1, bc_ BK220 0, bc_ BK220 1⟩ (fun hHeld => ?_)
    clear hK K
    refine nm_ ?_
    refine pure_ (i := 4) (N := some 26) (v := ?_) (a' := ?_) (tf 5 0) rfl rfl (by kernel_rfl) (fun _ _ _ h => h) (Or.inl ⟨by rfl, ?_⟩) ?_ ?_
    rotate_left
    ·intro w'
     go_simp
     with_reducible rfl
    rotate_left
    ·simp only [Act.put, List.setIfInBounds_toArray, List.set_cons_zero, List.set_cons_succ, i64_w, i32_w]
     rfl
    refine done_ (by kernel_rfl) ?_
    try go_wp2
    go_ret
    exact ⟨er_, bb_⟩
   ·replace c14 := Bool.eq_false_iff.mpr c14
    subst c14
    have H1 : (some false) = some r := by rw [if_neg (show ¬ (false = true) by decide)] at H; exact H
    clear H
    have H := H1
    clear H1
    obtain rfl := Option.some.inj H
    go_enter Try.func3, Try.ntmps3
    try go_wp2_with (first | ((with_reducible refine gate_dst (N := 1) rfl ?_); refine bx_ 1 #[.int .i64 a0_0, .slice A0_1 l0_1.length c0_1] 24 ?_; intro gb220 hg w33 hbox hb; have BK220 := Aside0.mk (hbox); have GW220 := gw_ hg; have GE220 := gw_ hg; replace HB := bs_ hb; clear hb hbox hg; obtain ⟨hcz34_0, hcz34_1, hfz34_0, hfz34_1⟩ := b2_ BK220) | ((with_reducible refine gate_callee (f := 5) rfl ?_); refine gsL_ (some 9) Try.func5 #[.agg #[.int .i64 a0_0, .slice A0_1 l0_1.length c0_1], .int .i64 1048576] ?_; (with_reducible refine (laws_szBag.calls k a0_0 _ _ l0_1 1048576 t221 _ ?side1 ?side2 A2.out).mono ?_); (case side1 => exact ck_ (Kd.C_below HR0_1.out HB.out)); (case side2 => exact HC0_1.out); rintro e w35 ⟨rfl, hb⟩; refine ⟨_, rfl, ?_⟩; replace BK220 := bkb_ BK220 hb; replace HB := bs_ hb; (try clear hb); (try clear hb2); (try clear hk); (try clear hi); obtain ⟨hcz36_0, hcz36_1, hfz36_0, hfz36_1⟩ := b2_ BK220) | ((with_reducible refine gate_callee (f := 7) rfl ?_); refine gsL_ (some 13) Try.func7 #[.agg #[.int .i64 a0_0, .slice A0_1 l0_1.length c0_1]] ?_; (with_reducible refine (laws_toBag.calls k a0_0 _ _ l0_1 t222 t223 _ ?side1 ?side2 A7.out).mono ?_); (case side1 => exact ck_ (Kd.C_below HR0_1.out HB.out)); (case side2 => exact HC0_1.out); rintro e w37 ⟨v224, rfl, ho0, hb⟩; refine ⟨_, rfl, ?_⟩; have HO225 := Aside0.mk (Kd.S_lower ho0 (below_size bb_)); replace BK220 := bkb_ BK220 hb; replace HB := bs_ hb; (try clear hb); (try clear hb2); (try clear hk); (try clear hi); (try clear ho0); obtain ⟨Ao38, co38, eo38⟩ := Kd.S_slice HO225.out; subst eo38) | ((with_reducible refine gate_callee (f := 6) rfl ?_); refine gsL_ (some 14) Try.func6 #[.agg #[.int .i64 t222, .slice Ao38 t223.length co38]] ?_; (with_reducible refine (spec_PutBag.calls k t222 _ _ t223 t226 _ ?side1 ?side2 A8.out).mono ?_); (case side1 => exact ck_ (Kd.S_reads' HO225.out).2.2); (case side2 => exact (Kd.S_reads' HO225.out).2.1); rintro e w39 ⟨rfl, hb⟩; refine ⟨_, rfl, ?_⟩; replace HO225 := Aside0.mk (Kd.S_below (sk_ HO225.out) hb); replace BK220 := bkb_ BK220 hb; replace HB := bs_ hb; (try clear hb); (try clear hb2); (try clear hk); (try clear hi); obtain ⟨hcz40_0, hcz40_1, hfz40_0, hfz40_1⟩ := b2_ BK220) | ((with_reducible refine gate_callee (f := 7) rfl ?_); refine gsL_ (some 16) Try.func7 #[.agg #[.int .i64 a0_0, .slice A0_1 l0_1.length c0_1]] ?_; (with_reducible refine (laws_toBag.calls k a0_0 _ _ l0_1 t227 t228 _ ?side1 ?side2 A9.out).mono ?_); (case side1 => exact ck_ (Kd.C_below HR0_1.out HB.out)); (case side2 => exact HC0_1.out); rintro e w41 ⟨v229, rfl, ho0, hb⟩; refine ⟨_, rfl, ?_⟩; have HO230 := Aside0.mk (Kd.S_lower (Kd.S_new' ho0 (Kd.S_lt (sk_ HO225.out))) (below_size bb_)); replace HO225 := Aside0.mk (Kd.S_elder' (sk_ HO225.out) (Kd.S_base ho0) hb); replace BK220 := bkb_ BK220 hb; replace HB := bs_ hb; (try clear hb); (try clear hb2); (try clear hk); (try clear hi); (try clear ho0)) | ((with_reducible refine gate_dst (N := 5) rfl ?_); refine bx_ 5 #[.int .i64 0, .slice none 0 0] 29 ?_; intro gb231 hg w42 hbox hb; have BK231 := Aside0.mk (hbox); have GW231 := gw_ hg; have GE231 := gw_ hg; have NB220_231 := nl_ hg BK220; have NB231_220 := ng_ hg BK220; replace HO225 := Aside0.mk (Kd.S_below (sk_ HO225.out) hb); replace HO230 := Aside0.mk (Kd.S_below (sk_ HO230.out) hb); replace BK220 := bkb_ BK220 hb; replace HB := bs_ hb; clear hb hbox hg; have hnb43 := NB231_220.out; have hnc43 := NB220_231.out; obtain ⟨hcz44_0, hcz44_1, hfz44_0, hfz44_1⟩ := b2_ BK231; obtain ⟨Ao45, co45, eo45⟩ := Kd.S_slice HO230.out; subst eo45) | ((with_reducible refine gate_callee (f := 8) rfl ?_); refine gsL_ (some 18) Try.func8 #[.agg #[.int .i64 t227, .slice Ao45 t228.length co45]] ?_; (with_reducible refine (impl_PutBag.calls k t227 _ _ t228 t232 _ ?side1 ?side2 A10.out).mono ?_); (case side1 => refine (Kd.S_reads' (e := 46) (base := w.heap.size) (ok := fun k_ => (True ∧ some k_ ≠ (.slice Ao38 t223.length co38 : Value).ownBlock)) (n := t228.length) (c := co45) ?_).2.2; exact (sk_ (Kd.S_mono (Kd.S_far (p := ⟨gb231, 1, none⟩) (Kd.S_far (p := ⟨gb231, 0, none⟩) (Kd.S_types HO230.out BK231.out (by decide)) (fun _ hk => hk.2) (.int .i64 t227)) (fun _ hk => hk.2) (.slice Ao45 t228.length co45)) (fun _ h_ => h_.1)))); (case side2 => exact (Kd.S_reads' HO230.out).2.1); rintro e w46 ⟨rfl, hb⟩; refine ⟨_, rfl, ?_⟩; have n0_ := Aside0.mk (Kd.S_below (sk_ (Kd.S_mono (Kd.S_far (p := ⟨gb231, 1, none⟩) (Kd.S_far (p := ⟨gb231, 0, none⟩) (Kd.S_types HO225.out BK231.out (by decide)) (fun _ hk => hk.2) (.int .i64 t227)) (fun _ hk => hk.2) (.slice Ao45 t228.length co45)) (fun _ h_ => h_.1))) hb); have n1_ := Aside0.mk (Kd.S_below (sk_ (Kd.S_mono (Kd.S_far (p := ⟨gb231, 1, none⟩) (Kd.S_far (p := ⟨gb231, 0, none⟩) (Kd.S_types HO230.out BK231.out (by decide)) (fun _ hk => hk.2) (.int .i64 t227)) (fun _ hk => hk.2) (.slice Ao45 t228.length co45)) (fun _ h_ => h_.1))) hb); have n2_ := Aside0.mk (blk_below (g := gb220) (o := .cells #[.int .i64 a0_0, .slice A0_1 l0_1.length c0_1] 24 (0, 0)) (bf2_ NB220_231 (bkx_ BK220.out)) hb); have n3_ := Aside0.mk (blk_below (g := gb231) (o := .cells #[.int .i64 t227, .slice Ao45 t228.length co45] 29 (0, 0)) (bp2_ (bkx_ BK231.out)) hb); have n4_ := bs_ hb; clear HO225; clear HO230; clear BK220; clear BK231; clear HB; have HO225 := n0_; have HO230 := n1_; have BK220 := n2_; have BK231 := n3_; have HB := n4_; clear n0_ n1_ n2_ n3_ n4_; (try clear hb); (try clear hb2); (try clear hk); (try clear hi)))
    replace HO225 := Aside0.mk (Kd.S_drew HO225.out)
    replace HO230 := Aside0.mk (Kd.S_drew HO230.out)
    replace BK220 := Aside0.mk (blk_drew BK220.out)
    replace BK231 := Aside0.mk (blk_drew BK231.out)
    replace HB := Aside0.mk (below_drew1 HB.out)
    refine start_ (n := 5) (S := fun w' => w'.cell? ⟨gb231, 0, none⟩ = some (.int .i64 t227) ∧ w'.cell? ⟨gb231, 1, none⟩ = some (.slice Ao45 t228.length co45) ∧ w'.cell? ⟨gb220, 0, none⟩ = some (.int .i64 a0_0) ∧ w'.cell? ⟨gb220, 1, none⟩ = some (.slice A0_1 l0_1.length c0_1)) (ds := []) (tf 0 5) (by kernel_rfl) rfl rfl ⟨bc_ BK231 0, bc_ BK231 1, bc_ BK220 0, bc_ BK220 1⟩ (fun hHeld => ?_)
    generalize w46.drew = w47 at HO225 HO230 BK220 BK231 HB hHeld ⊢
    refine take_ (i := 0) (N := some 22) (v := ?_) (a' := ?_) (tf 1 4) rfl rfl (by kernel_rfl) (fun _ _ _ h => h) (Or.inl ⟨by rfl, ?_⟩) hHeld ?_ ?_
    rotate_left
    ·rintro w' ⟨s0, s1, s2, s3⟩
     go_simp
     with_reducible rfl
    rotate_left
    ·simp only [Act.put, List.setIfInBounds_toArray, List.set_cons_zero, List.set_cons_succ, i64_w, i32_w]
     rfl
    refine take_ (i := 1) (N := some 23) (v := ?_) (a' := ?_) (tf 2 3) rfl rfl (by kernel_rfl) (fun _ _ _ h => h) (Or.inl ⟨by rfl, ?_⟩) hHeld ?_ ?_
    rotate_left
    ·rintro w' ⟨s0, s1, s2, s3⟩
     go_simp
     with_reducible rfl
    rotate_left
    ·simp only [Act.put, List.setIfInBounds_toArray, List.set_cons_zero, List.set_cons_succ, i64_w, i32_w]
     rfl
    refine one_ (i := 2) (N := some 24) (tf 3 2) rfl rfl (by kernel_rfl) (by decide) (fun K hK => ?_)
    refine gs_ Try.func7 #[.agg #[.int .i64 a0_0, .slice A0_1 l0_1.length c0_1]] ?_
    with_reducible refine (laws_toBag.calls k a0_0 _ _ l0_1 t233 t234 _ ?side1 ?side2 A12.out).mono ?_
    (case side1 => exact ck_ (Kd.C_below HR0_1.out HB.out))
    (case side2 => exact HC0_1.out)
    rintro e w48 ⟨v235, rfl, ho0, hb⟩
    refine ⟨_, rfl, ?_⟩
    have HO236 := Aside0.mk (Kd.S_lower (Kd.S_new' (Kd.S_new' ho0 (Kd.S_lt (sk_ HO225.out))) (Kd.S_lt (sk_ HO230.out))) (below_size bb_))
    replace HO225 := Aside0.mk (Kd.S_elder' (sk_ HO225.out) (Kd.S_base ho0) hb)
    replace HO230 := Aside0.mk (Kd.S_elder' (sk_ HO230.out) (Kd.S_base ho0) hb)
    replace BK220 := bkb_ BK220 hb
    replace BK231 := bkb_ BK231 hb
    replace HB := bs_ hb
    (try clear hb)
    (try clear hb2)
    (try clear hk)
    (try clear hi)
    (try clear ho0)
    obtain ⟨Ao49, co49, eo49⟩ := Kd.S_slice HO236.out
    (first | subst eo49 | (injection eo49 with f1_ f2_ f3_; have f4_ := f1_.symm; have f5_ := f3_.symm; clear f1_ f2_ f3_; subst f4_; subst f5_))
    refine hK.out _ _ ⟨bc_ BK231 0, bc_ BK231 1, bc_ BK220 0, bc_ BK220 1⟩ (fun hHeld => ?_)
    clear hK K
    refine nm_ ?_
    refine one_ (i := 3) (N := some 25) (tf 4 1) rfl rfl (by kernel_rfl) (by decide) (fun K hK => ?_)
    refine gs_ Try.func9 #[.agg #[.int .i64 t227, .slice Ao45 t228.length co45], .agg #[.int .i64 t233, .slice Ao49 t234.length co49]] ?_
    with_reducible refine (laws_eqBag.calls k t227 _ _ t228 t233 _ _ t234 false _ ?side1 ?side2 ?side3 ?side4 A13.out).mono ?_
    (case side1 => exact ck_ (Kd.S_reads' HO230.out).2.2)
    (case side2 => exact (Kd.S_reads' HO230.out).2.1)
    (case side3 => exact ck_ (Kd.S_reads' HO236.out).2.2)
    (case side4 => exact (Kd.S_reads' HO236.out).2.1)
    rintro e w50 ⟨rfl, hb⟩
    refine ⟨_, rfl, ?_⟩
    replace HO225 := Aside0.mk (Kd.S_below (sk_ HO225.out) hb)
    replace HO230 := Aside0.mk (Kd.S_below (sk_ HO230.out) hb)
    replace HO236 := Aside0.mk (Kd.S_below (sk_ HO236.out) hb)
    replace BK220 := bkb_ BK220 hb
    replace BK231 := bkb_ BK231 hb
    replace HB := bs_ hb
    (try clear hb)
    (try clear hb2)
    (try clear hk)
    (try clear hi)
    refine hK.out _ _ ⟨bc_ BK231 0, bc_ BK231 1, bc_ BK220 0, bc_ BK220 1⟩ (fun hHeld => ?_)
    clear hK K
    refine nm_ ?_
    refine pure_ (i := 4) (N := some 26) (v := ?_) (a' := ?_) (tf 5 0) rfl rfl (by kernel_rfl) (fun _ _ _ h => h) (Or.inl ⟨by rfl, ?_⟩) ?_ ?_
    rotate_left
    ·intro w'
     go_simp
     with_reducible rfl
    rotate_left
    ·simp only [Act.put, List.setIfInBounds_toArray, List.set_cons_zero, List.set_cons_succ, i64_w, i32_w]
     rfl
    refine done_ (by kernel_rfl) ?_
    try go_wp2
    go_ret
    exact ⟨er_, bb_⟩
  ·rw [if_neg c11] at H
   have c11b0 : (t232.toList == t226.toList) = false := beq_eq_false_iff_ne.mpr c11
   have c11b1 : (t232.toList != t226.toList) = true := bne_iff_ne.mpr c11
   obtain rfl := Option.some.inj H
   go_enter Try.func3, Try.ntmps3
   go_wp2_with (first | ((with_reducible refine gate_dst (N := 1) rfl ?_); refine bx_ 1 #[.int .i64 a0_0, .slice A0_1 l0_1.length c0_1] 24 ?_; intro gb220 hg w51 hbox hb; have BK220 := Aside0.mk (hbox); have GW220 := gw_ hg; have GE220 := gw_ hg; replace HB := bs_ hb; clear hb hbox hg; obtain ⟨hcz52_0, hcz52_1, hfz52_0, hfz52_1⟩ := b2_ BK220) | ((with_reducible refine gate_callee (f := 5) rfl ?_); refine gsL_ (some 9) Try.func5 #[.agg #[.int .i64 a0_0, .slice A0_1 l0_1.length c0_1], .int .i64 1048576] ?_; (with_reducible refine (laws_szBag.calls k a0_0 _ _ l0_1 1048576 t221 _ ?side1 ?side2 A2.out).mono ?_); (case side1 => exact ck_ (Kd.C_below HR0_1.out HB.out)); (case side2 => exact HC0_1.out); rintro e w53 ⟨rfl, hb⟩; refine ⟨_, rfl, ?_⟩; replace BK220 := bkb_ BK220 hb; replace HB := bs_ hb; (try clear hb); (try clear hb2); (try clear hk); (try clear hi); obtain ⟨hcz54_0, hcz54_1, hfz54_0, hfz54_1⟩ := b2_ BK220) | ((with_reducible refine gate_callee (f := 7) rfl ?_); refine gsL_ (some 13) Try.func7 #[.agg #[.int .i64 a0_0, .slice A0_1 l0_1.length c0_1]] ?_; (with_reducible refine (laws_toBag.calls k a0_0 _ _ l0_1 t222 t223 _ ?side1 ?side2 A7.out).mono ?_); (case side1 => exact ck_ (Kd.C_below HR0_1.out HB.out)); (case side2 => exact HC0_1.out); rintro e w55 ⟨v224, rfl, ho0, hb⟩; refine ⟨_, rfl, ?_⟩; have HO225 := Aside0.mk (Kd.S_lower ho0 (below_size bb_)); replace BK220 := bkb_ BK220 hb; replace HB := bs_ hb; (try clear hb); (try clear hb2); (try clear hk); (try clear hi); (try clear ho0); obtain ⟨Ao56, co56, eo56⟩ := Kd.S_slice HO225.out; subst eo56) | ((with_reducible refine gate_callee (f := 6) rfl ?_); refine gsL_ (some 14) Try.func6 #[.agg #[.int .i64 t222, .slice Ao56 t223.length co56]] ?_; (with_reducible refine (spec_PutBag.calls k t222 _ _ t223 t226 _ ?side1 ?side2 A8.out).mono ?_); (case side1 => exact ck_ (Kd.S_reads' HO225.out).2.2); (case side2 => exact (Kd.S_reads' HO225.out).2.1); rintro e w57 ⟨rfl, hb⟩; refine ⟨_, rfl, ?_⟩; replace HO225 := Aside0.mk (Kd.S_below (sk_ HO225.out) hb); replace BK220 := bkb_ BK220 hb; replace HB := bs_ hb; (try clear hb); (try clear hb2); (try clear hk); (try clear hi); obtain ⟨hcz58_0, hcz58_1, hfz58_0, hfz58_1⟩ := b2_ BK220) | ((with_reducible refine gate_callee (f := 7) rfl ?_); refine gsL_ (some 16) Try.func7 #[.agg #[.int .i64 a0_0, .slice A0_1 l0_1.length c0_1]] ?_; (with_reducible refine (laws_toBag.calls k a0_0 _ _ l0_1 t227 t228 _ ?side1 ?side2 A9.out).mono ?_); (case side1 => exact ck_ (Kd.C_below HR0_1.out HB.out)); (case side2 => exact HC0_1.out); rintro e w59 ⟨v229, rfl, ho0, hb⟩; refine ⟨_, rfl, ?_⟩; have HO230 := Aside0.mk (Kd.S_lower (Kd.S_new' ho0 (Kd.S_lt (sk_ HO225.out))) (below_size bb_)); replace HO225 := Aside0.mk (Kd.S_elder' (sk_ HO225.out) (Kd.S_base ho0) hb); replace BK220 := bkb_ BK220 hb; replace HB := bs_ hb; (try clear hb); (try clear hb2); (try clear hk); (try clear hi); (try clear ho0)) | ((with_reducible refine gate_dst (N := 5) rfl ?_); refine bx_ 5 #[.int .i64 0, .slice none 0 0] 29 ?_; intro gb231 hg w60 hbox hb; have BK231 := Aside0.mk (hbox); have GW231 := gw_ hg; have GE231 := gw_ hg; have NB220_231 := nl_ hg BK220; have NB231_220 := ng_ hg BK220; replace HO225 := Aside0.mk (Kd.S_below (sk_ HO225.out) hb); replace HO230 := Aside0.mk (Kd.S_below (sk_ HO230.out) hb); replace BK220 := bkb_ BK220 hb; replace HB := bs_ hb; clear hb hbox hg; have hnb61 := NB231_220.out; have hnc61 := NB220_231.out; obtain ⟨hcz62_0, hcz62_1, hfz62_0, hfz62_1⟩ := b2_ BK231; obtain ⟨Ao63, co63, eo63⟩ := Kd.S_slice HO230.out; subst eo63) | ((with_reducible refine gate_callee (f := 8) rfl ?_); refine gsL_ (some 18) Try.func8 #[.agg #[.int .i64 t227, .slice Ao63 t228.length co63]] ?_; (with_reducible refine (impl_PutBag.calls k t227 _ _ t228 t232 _ ?side1 ?side2 A10.out).mono ?_); (case side1 => refine (Kd.S_reads' (e := 46) (base := w.heap.size) (ok := fun k_ => (True ∧ some k_ ≠ (.slice Ao56 t223.length co56 : Value).ownBlock)) (n := t228.length) (c := co63) ?_).2.2; exact (sk_ (Kd.S_mono (Kd.S_far (p := ⟨gb231, 1, none⟩) (Kd.S_far (p := ⟨gb231, 0, none⟩) (Kd.S_types HO230.out BK231.out (by decide)) (fun _ hk => hk.2) (.int .i64 t227)) (fun _ hk => hk.2) (.slice Ao63 t228.length co63)) (fun _ h_ => h_.1)))); (case side2 => exact (Kd.S_reads' HO230.out).2.1); rintro e w64 ⟨rfl, hb⟩; refine ⟨_, rfl, ?_⟩; have n0_ := Aside0.mk (Kd.S_below (sk_ (Kd.S_mono (Kd.S_far (p := ⟨gb231, 1, none⟩) (Kd.S_far (p := ⟨gb231, 0, none⟩) (Kd.S_types HO225.out BK231.out (by decide)) (fun _ hk => hk.2) (.int .i64 t227)) (fun _ hk => hk.2) (.slice Ao63 t228.length co63)) (fun _ h_ => h_.1))) hb); have n1_ := Aside0.mk (Kd.S_below (sk_ (Kd.S_mono (Kd.S_far (p := ⟨gb231, 1, none⟩) (Kd.S_far (p := ⟨gb231, 0, none⟩) (Kd.S_types HO230.out BK231.out (by decide)) (fun _ hk => hk.2) (.int .i64 t227)) (fun _ hk => hk.2) (.slice Ao63 t228.length co63)) (fun _ h_ => h_.1))) hb); have n2_ := Aside0.mk (blk_below (g := gb220) (o := .cells #[.int .i64 a0_0, .slice A0_1 l0_1.length c0_1] 24 (0, 0)) (bf2_ NB220_231 (bkx_ BK220.out)) hb); have n3_ := Aside0.mk (blk_below (g := gb231) (o := .cells #[.int .i64 t227, .slice Ao63 t228.length co63] 29 (0, 0)) (bp2_ (bkx_ BK231.out)) hb); have n4_ := bs_ hb; clear HO225; clear HO230; clear BK220; clear BK231; clear HB; have HO225 := n0_; have HO230 := n1_; have BK220 := n2_; have BK231 := n3_; have HB := n4_; clear n0_ n1_ n2_ n3_ n4_; (try clear hb); (try clear hb2); (try clear hk); (try clear hi)))
   go_ret
   exact ⟨er_, bb_⟩

end Go.Proofs.Ytnibegacjmnhoaa.PFnExactPutBag
