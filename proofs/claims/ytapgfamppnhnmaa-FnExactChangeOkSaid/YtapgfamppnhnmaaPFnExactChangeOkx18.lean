-- WRITTEN BY xprint.py, a program of this session over the kit's printer: by nobody's hand
-- PRESSED
import Derived.Test.YtapgfamppnhnmaaPress
import Derived.Test.YtapgfamppnhnmaaPFnExactChangeOkx0
import Derived.Test.YtapgfamppnhnmaaPFnExactChangeOkx1
import Derived.Test.YtapgfamppnhnmaaPFnExactChangeOkx9
import Derived.Test.YtapgfamppnhnmaaPFnExactChangeOkx10
import Derived.Test.YtapgfamppnhnmaaPFnExactChangeOkx16
import Derived.Test.YtapgfamppnhnmaaPFnExactChangeOkx17
namespace Go.Proofs.Ytapgfamppnhnmaa.PFnExactChangeOk
set_option maxRecDepth 100000
open Go.RowKit Go.Proofs.YtapgfamppnhnmaaW.PrintWords Go.Proofs.YtapgfamppnhnmaaW.PrintLast Go.Proofs.YtapgfamppnhnmaaW.PrintMore
attribute [local go_sem] max2_int min2_int max_two min_two max_three min_three max_four min_four   -- for this text's walks alone
set_option linter.unusedVariables false
set_option linter.unusedSimpArgs false

/-! ### laws_eqBag: function 19 -/
def laws_eqBag.f (k : Nat) (a0_0 : Int) (l0_1 : List (S74)) (a1_0 : Int) (l1_1 : List (S74)) : Option (Bool) := if a0_0 = a1_0 then ((laws_eqCountedS.f k l0_1 l1_1).bind fun t377 => (if t377 = true then (some true) else (some false))) else (some false)
set_option maxHeartbeats 8000000 in
theorem laws_eqBag.calls (k : Nat) (a0_0 : Int) (A0_1 : Option Addr) (c0_1 : Nat) (l0_1 : List (S74)) (a1_0 : Int) (A1_1 : Option Addr) (c1_1 : Nat) (l1_1 : List (S74)) (r : Bool) (w : World) (hr0_1 : Kd.C k74 w A0_1 l0_1.length l0_1) (hc0_1 : l0_1.length ≤ c0_1) (hr1_1 : Kd.C k74 w A1_1 l1_1.length l1_1) (hc1_1 : l1_1.length ≤ c1_1) (h : laws_eqBag.f k a0_0 l0_1 a1_0 l1_1 = some r) :
  Calls Try.prog 19 #[.agg #[.int .i64 a0_0, .slice A0_1 l0_1.length c0_1], .agg #[.int .i64 a1_0, .slice A1_1 l1_1.length c1_1]] w fun e w' => e = .returned (.bool r) ∧ Below w.heap.size w w' := by
 have hu40 := Try.underlying40
 have HR0_1 := Aside0.mk hr0_1
 have HC0_1 := Aside0.mk hc0_1
 clear hr0_1 hc0_1
 have HR1_1 := Aside0.mk hr1_1
 have HC1_1 := Aside0.mk hc1_1
 clear hr1_1 hc1_1
 have HB := Aside0.mk (Below.refl w.heap.size w)
 have H : (if a0_0 = a1_0 then ((laws_eqCountedS.f k l0_1 l1_1).bind fun t377 => (if t377 = true then (some true) else (some false))) else (some false)) = some r := h
 clear h
 by_cases c3 : a0_0 = a1_0
 ·rw [if_pos c3] at H
  have c3b0 : (a0_0 == a1_0) = true := beq_iff_eq.mpr c3
  have c3b1 : (a0_0 != a1_0) = false := bne_eq_false_iff_eq.mpr c3
  clear c3
  replace H := Option.bind_eq_some_iff.mp H
  obtain ⟨t377, A40, H⟩ := H
  replace H : (if t377 = true then (some true) else (some false)) = some r := H
  have A4 := Aside0.mk A40
  clear A40
  by_cases c5 : t377 = true
  ·subst c5
   have H1 : (some true) = some r := by rw [if_pos rfl] at H; exact H
   clear H
   have H := H1
   clear H1
   obtain rfl := Option.some.inj H
   go_enter Try.func19, Try.ntmps19
   go_wp2_with (first | ((with_reducible refine gate_dst (N := 2) rfl ?_); refine bx_ 2 #[.int .i64 a0_0, .slice A0_1 l0_1.length c0_1] 40 ?_; intro gb375 hg w6 hbox hb; have BK375 := Aside0.mk (hbox); have GW375 := gw_ hg; have GE375 := gw_ hg; replace HB := bs_ hb; clear hb hbox hg) | ((with_reducible refine gate_dst (N := 3) rfl ?_); refine bx_ 3 #[.int .i64 a1_0, .slice A1_1 l1_1.length c1_1] 40 ?_; intro gb376 hg w7 hbox hb; have BK376 := Aside0.mk (hbox); have GW376 := gw_ hg; have GE376 := gw_ hg; have NB375_376 := nl_ hg BK375; have NB376_375 := ng_ hg BK375; replace BK375 := bkb_ BK375 hb; replace HB := bs_ hb; clear hb hbox hg; have hnb8 := NB375_376.out; have hnc8 := NB376_375.out; obtain ⟨hcz9_0, hcz9_1, hfz9_0, hfz9_1⟩ := b2_ BK375; obtain ⟨hcz10_0, hcz10_1, hfz10_0, hfz10_1⟩ := b2_ BK376) | ((with_reducible refine gate_callee (f := 48) rfl ?_); refine gsL_ (some 14) Try.func48 #[.slice A0_1 l0_1.length c0_1, .slice A1_1 l1_1.length c1_1] ?_; (with_reducible refine (laws_eqCountedS.calls k _ _ l0_1 _ _ l1_1 true _ ?side1 ?side2 ?side3 ?side4 A4.out).mono ?_); (case side1 => exact ck_ (Kd.C_below HR0_1.out HB.out)); (case side2 => exact HC0_1.out); (case side3 => exact ck_ (Kd.C_below HR1_1.out HB.out)); (case side4 => exact HC1_1.out); rintro e w11 ⟨rfl, hb⟩; refine ⟨_, rfl, ?_⟩; replace BK375 := bkb_ BK375 hb; replace BK376 := bkb_ BK376 hb; replace HB := bs_ hb; (try clear hb); (try clear hb2); (try clear hk); (try clear hi)))
   go_ret
   exact ⟨er_, bb_⟩
  ·replace c5 := Bool.eq_false_iff.mpr c5
   subst c5
   have H1 : (some false) = some r := by rw [if_neg (show ¬ (false = true) by decide)] at H; exact H
   clear H
   have H := H1
   clear H1
   obtain rfl := Option.some.inj H
   go_enter Try.func19, Try.ntmps19
   go_wp2_with (first | ((with_reducible refine gate_dst (N := 2) rfl ?_); refine bx_ 2 #[.int .i64 a0_0, .slice A0_1 l0_1.length c0_1] 40 ?_; intro gb375 hg w12 hbox hb; have BK375 := Aside0.mk (hbox); have GW375 := gw_ hg; have GE375 := gw_ hg; replace HB := bs_ hb; clear hb hbox hg) | ((with_reducible refine gate_dst (N := 3) rfl ?_); refine bx_ 3 #[.int .i64 a1_0, .slice A1_1 l1_1.length c1_1] 40 ?_; intro gb376 hg w13 hbox hb; have BK376 := Aside0.mk (hbox); have GW376 := gw_ hg; have GE376 := gw_ hg; have NB375_376 := nl_ hg BK375; have NB376_375 := ng_ hg BK375; replace BK375 := bkb_ BK375 hb; replace HB := bs_ hb; clear hb hbox hg; have hnb14 := NB375_376.out; have hnc14 := NB376_375.out; obtain ⟨hcz15_0, hcz15_1, hfz15_0, hfz15_1⟩ := b2_ BK375; obtain ⟨hcz16_0, hcz16_1, hfz16_0, hfz16_1⟩ := b2_ BK376) | ((with_reducible refine gate_callee (f := 48) rfl ?_); refine gsL_ (some 14) Try.func48 #[.slice A0_1 l0_1.length c0_1, .slice A1_1 l1_1.length c1_1] ?_; (with_reducible refine (laws_eqCountedS.calls k _ _ l0_1 _ _ l1_1 false _ ?side1 ?side2 ?side3 ?side4 A4.out).mono ?_); (case side1 => exact ck_ (Kd.C_below HR0_1.out HB.out)); (case side2 => exact HC0_1.out); (case side3 => exact ck_ (Kd.C_below HR1_1.out HB.out)); (case side4 => exact HC1_1.out); rintro e w17 ⟨rfl, hb⟩; refine ⟨_, rfl, ?_⟩; replace BK375 := bkb_ BK375 hb; replace BK376 := bkb_ BK376 hb; replace HB := bs_ hb; (try clear hb); (try clear hb2); (try clear hk); (try clear hi)))
   go_ret
   exact ⟨er_, bb_⟩
 ·rw [if_neg c3] at H
  have c3b0 : (a0_0 == a1_0) = false := beq_eq_false_iff_ne.mpr c3
  have c3b1 : (a0_0 != a1_0) = true := bne_iff_ne.mpr c3
  obtain rfl := Option.some.inj H
  go_enter Try.func19, Try.ntmps19
  go_wp2_with (first | ((with_reducible refine gate_dst (N := 2) rfl ?_); refine bx_ 2 #[.int .i64 a0_0, .slice A0_1 l0_1.length c0_1] 40 ?_; intro gb375 hg w18 hbox hb; have BK375 := Aside0.mk (hbox); have GW375 := gw_ hg; have GE375 := gw_ hg; replace HB := bs_ hb; clear hb hbox hg) | ((with_reducible refine gate_dst (N := 3) rfl ?_); refine bx_ 3 #[.int .i64 a1_0, .slice A1_1 l1_1.length c1_1] 40 ?_; intro gb376 hg w19 hbox hb; have BK376 := Aside0.mk (hbox); have GW376 := gw_ hg; have GE376 := gw_ hg; have NB375_376 := nl_ hg BK375; have NB376_375 := ng_ hg BK375; replace BK375 := bkb_ BK375 hb; replace HB := bs_ hb; clear hb hbox hg; have hnb20 := NB375_376.out; have hnc20 := NB376_375.out; obtain ⟨hcz21_0, hcz21_1, hfz21_0, hfz21_1⟩ := b2_ BK375; obtain ⟨hcz22_0, hcz22_1, hfz22_0, hfz22_1⟩ := b2_ BK376))
  go_ret
  exact ⟨er_, bb_⟩

/-! ### laws_eqRel: function 68 -/
def laws_eqRel.f (k : Nat) (a0_0 : ByteArray) (a0_1 : Int) (l0_2 : List (S74)) (a1_0 : ByteArray) (a1_1 : Int) (l1_2 : List (S74)) : Option (Bool) := if a0_0.toList = a1_0.toList then ((laws_eqBag.f k a0_1 l0_2 a1_1 l1_2).bind fun t380 => (if t380 = true then (some true) else (some false))) else (some false)
set_option maxHeartbeats 8000000 in
theorem laws_eqRel.calls (k : Nat) (a0_0 : ByteArray) (a0_1 : Int) (A0_2 : Option Addr) (c0_2 : Nat) (l0_2 : List (S74)) (a1_0 : ByteArray) (a1_1 : Int) (A1_2 : Option Addr) (c1_2 : Nat) (l1_2 : List (S74)) (r : Bool) (w : World) (hr0_2 : Kd.C k74 w A0_2 l0_2.length l0_2) (hc0_2 : l0_2.length ≤ c0_2) (hr1_2 : Kd.C k74 w A1_2 l1_2.length l1_2) (hc1_2 : l1_2.length ≤ c1_2) (h : laws_eqRel.f k a0_0 a0_1 l0_2 a1_0 a1_1 l1_2 = some r) :
  Calls Try.prog 68 #[.agg #[.string a0_0, .int .i64 a0_1, .slice A0_2 l0_2.length c0_2], .agg #[.string a1_0, .int .i64 a1_1, .slice A1_2 l1_2.length c1_2]] w fun e w' => e = .returned (.bool r) ∧ Below w.heap.size w w' := by
 have hu91 := Try.underlying91
 have hu40 := Try.underlying40
 have HR0_2 := Aside0.mk hr0_2
 have HC0_2 := Aside0.mk hc0_2
 clear hr0_2 hc0_2
 have HR1_2 := Aside0.mk hr1_2
 have HC1_2 := Aside0.mk hc1_2
 clear hr1_2 hc1_2
 have HB := Aside0.mk (Below.refl w.heap.size w)
 have H : (if a0_0.toList = a1_0.toList then ((laws_eqBag.f k a0_1 l0_2 a1_1 l1_2).bind fun t380 => (if t380 = true then (some true) else (some false))) else (some false)) = some r := h
 clear h
 by_cases c3 : a0_0.toList = a1_0.toList
 ·rw [if_pos c3] at H
  have c3b0 : (a0_0.toList == a1_0.toList) = true := beq_iff_eq.mpr c3
  have c3b1 : (a0_0.toList != a1_0.toList) = false := bne_eq_false_iff_eq.mpr c3
  clear c3
  replace H := Option.bind_eq_some_iff.mp H
  obtain ⟨t380, A40, H⟩ := H
  replace H : (if t380 = true then (some true) else (some false)) = some r := H
  have A4 := Aside0.mk A40
  clear A40
  by_cases c5 : t380 = true
  ·subst c5
   have H1 : (some true) = some r := by rw [if_pos rfl] at H; exact H
   clear H
   have H := H1
   clear H1
   obtain rfl := Option.some.inj H
   go_enter Try.func68, Try.ntmps68
   go_wp2_with (first | ((with_reducible refine gate_dst (N := 2) rfl ?_); refine bx_ 2 #[.string a0_0, .int .i64 a0_1, .slice A0_2 l0_2.length c0_2] 91 ?_; intro gb378 hg w6 hbox hb; have BK378 := Aside0.mk (hbox); have GW378 := gw_ hg; have GE378 := gw_ hg; replace HB := bs_ hb; clear hb hbox hg) | ((with_reducible refine gate_dst (N := 3) rfl ?_); refine bx_ 3 #[.string a1_0, .int .i64 a1_1, .slice A1_2 l1_2.length c1_2] 91 ?_; intro gb379 hg w7 hbox hb; have BK379 := Aside0.mk (hbox); have GW379 := gw_ hg; have GE379 := gw_ hg; have NB378_379 := nl_ hg BK378; have NB379_378 := ng_ hg BK378; replace BK378 := bkb_ BK378 hb; replace HB := bs_ hb; clear hb hbox hg; have hnb8 := NB378_379.out; have hnc8 := NB379_378.out; obtain ⟨hcz9_0, hcz9_1, hcz9_2, hfz9_0, hfz9_1, hfz9_2⟩ := b3_ BK378; obtain ⟨hcz10_0, hcz10_1, hcz10_2, hfz10_0, hfz10_1, hfz10_2⟩ := b3_ BK379) | ((with_reducible refine gate_callee (f := 19) rfl ?_); refine gsL_ (some 14) Try.func19 #[.agg #[.int .i64 a0_1, .slice A0_2 l0_2.length c0_2], .agg #[.int .i64 a1_1, .slice A1_2 l1_2.length c1_2]] ?_; (with_reducible refine (laws_eqBag.calls k a0_1 _ _ l0_2 a1_1 _ _ l1_2 true _ ?side1 ?side2 ?side3 ?side4 A4.out).mono ?_); (case side1 => exact ck_ (Kd.C_below HR0_2.out HB.out)); (case side2 => exact HC0_2.out); (case side3 => exact ck_ (Kd.C_below HR1_2.out HB.out)); (case side4 => exact HC1_2.out); rintro e w11 ⟨rfl, hb⟩; refine ⟨_, rfl, ?_⟩; replace BK378 := bkb_ BK378 hb; replace BK379 := bkb_ BK379 hb; replace HB := bs_ hb; (try clear hb); (try clear hb2); (try clear hk); (try clear hi)))
   go_ret
   exact ⟨er_, bb_⟩
  ·replace c5 := Bool.eq_false_iff.mpr c5
   subst c5
   have H1 : (some false) = some r := by rw [if_neg (show ¬ (false = true) by decide)] at H; exact H
   clear H
   have H := H1
   clear H1
   obtain rfl := Option.some.inj H
   go_enter Try.func68, Try.ntmps68
   go_wp2_with (first | ((with_reducible refine gate_dst (N := 2) rfl ?_); refine bx_ 2 #[.string a0_0, .int .i64 a0_1, .slice A0_2 l0_2.length c0_2] 91 ?_; intro gb378 hg w12 hbox hb; have BK378 := Aside0.mk (hbox); have GW378 := gw_ hg; have GE378 := gw_ hg; replace HB := bs_ hb; clear hb hbox hg) | ((with_reducible refine gate_dst (N := 3) rfl ?_); refine bx_ 3 #[.string a1_0, .int .i64 a1_1, .slice A1_2 l1_2.length c1_2] 91 ?_; intro gb379 hg w13 hbox hb; have BK379 := Aside0.mk (hbox); have GW379 := gw_ hg; have GE379 := gw_ hg; have NB378_379 := nl_ hg BK378; have NB379_378 := ng_ hg BK378; replace BK378 := bkb_ BK378 hb; replace HB := bs_ hb; clear hb hbox hg; have hnb14 := NB378_379.out; have hnc14 := NB379_378.out; obtain ⟨hcz15_0, hcz15_1, hcz15_2, hfz15_0, hfz15_1, hfz15_2⟩ := b3_ BK378; obtain ⟨hcz16_0, hcz16_1, hcz16_2, hfz16_0, hfz16_1, hfz16_2⟩ := b3_ BK379) | ((with_reducible refine gate_callee (f := 19) rfl ?_); refine gsL_ (some 14) Try.func19 #[.agg #[.int .i64 a0_1, .slice A0_2 l0_2.length c0_2], .agg #[.int .i64 a1_1, .slice A1_2 l1_2.length c1_2]] ?_; (with_reducible refine (laws_eqBag.calls k a0_1 _ _ l0_2 a1_1 _ _ l1_2 false _ ?side1 ?side2 ?side3 ?side4 A4.out).mono ?_); (case side1 => exact ck_ (Kd.C_below HR0_2.out HB.out)); (case side2 => exact HC0_2.out); (case side3 => exact ck_ (Kd.C_below HR1_2.out HB.out)); (case side4 => exact HC1_2.out); rintro e w17 ⟨rfl, hb⟩; refine ⟨_, rfl, ?_⟩; replace BK378 := bkb_ BK378 hb; replace BK379 := bkb_ BK379 hb; replace HB := bs_ hb; (try clear hb); (try clear hb2); (try clear hk); (try clear hi)))
   go_ret
   exact ⟨er_, bb_⟩
 ·rw [if_neg c3] at H
  have c3b0 : (a0_0.toList == a1_0.toList) = false := beq_eq_false_iff_ne.mpr c3
  have c3b1 : (a0_0.toList != a1_0.toList) = true := bne_iff_ne.mpr c3
  obtain rfl := Option.some.inj H
  go_enter Try.func68, Try.ntmps68
  go_wp2_with (first | ((with_reducible refine gate_dst (N := 2) rfl ?_); refine bx_ 2 #[.string a0_0, .int .i64 a0_1, .slice A0_2 l0_2.length c0_2] 91 ?_; intro gb378 hg w18 hbox hb; have BK378 := Aside0.mk (hbox); have GW378 := gw_ hg; have GE378 := gw_ hg; replace HB := bs_ hb; clear hb hbox hg) | ((with_reducible refine gate_dst (N := 3) rfl ?_); refine bx_ 3 #[.string a1_0, .int .i64 a1_1, .slice A1_2 l1_2.length c1_2] 91 ?_; intro gb379 hg w19 hbox hb; have BK379 := Aside0.mk (hbox); have GW379 := gw_ hg; have GE379 := gw_ hg; have NB378_379 := nl_ hg BK378; have NB379_378 := ng_ hg BK378; replace BK378 := bkb_ BK378 hb; replace HB := bs_ hb; clear hb hbox hg; have hnb20 := NB378_379.out; have hnc20 := NB379_378.out; obtain ⟨hcz21_0, hcz21_1, hcz21_2, hfz21_0, hfz21_1, hfz21_2⟩ := b3_ BK378; obtain ⟨hcz22_0, hcz22_1, hcz22_2, hfz22_0, hfz22_1, hfz22_2⟩ := b3_ BK379))
  go_ret
  exact ⟨er_, bb_⟩

/-! ### laws_eqRelS: function 28 -/
def laws_eqRelS.l0 : Nat → List (S91) → List (S91) → Int → Option (Bool)
 | 0, _, _, _ => none
 | k + 1, x0, x1, x5 => if x5 < (x0.length : Int) then (if 0 ≤ x5 then (if x5 < (x1.length : Int) then ((laws_eqRel.f k ((rd_T91 x0 x5).f0) ((rd_T91 x0 x5).f1.f0) ((rd_T91 x0 x5).f1.f1) ((rd_T91 x1 x5).f0) ((rd_T91 x1 x5).f1.f0) ((rd_T91 x1 x5).f1.f1)).bind fun t383 => (if t383 = true then (laws_eqRelS.l0 k x0 x1 (wrap64 (x5 + 1))) else (some false))) else (none)) else (none)) else (some true)
def laws_eqRelS.f (k : Nat) (l0 : List (S91)) (l1 : List (S91)) : Option (Bool) := if (l0.length : Int) = (l1.length : Int) then (laws_eqRelS.l0 k l0 l1 0) else (some false)
def laws_eqRelS.T6 : Bool × List (List Nat × List Nat) := (true, [([], []), ([], []), ([0, 1], [0, 1]), ([2], [2]), ([], []), ([], []), ([4, 5], [4, 5]), ([6], [6]), ([3, 7], [3, 7]), ([8], [8])])
def laws_eqRelS.B6 : List Nat := [0, 0, 3, 7, 0, 0, 48, 112, 255, 511]
theorem laws_eqRelS.tab6 : rtab .any (opsOf Try.f28 6) = laws_eqRelS.T6 := by kernel_rfl
theorem laws_eqRelS.bits6 : waitsOk laws_eqRelS.T6.2 laws_eqRelS.B6 = true := by kernel_rfl
set_option maxHeartbeats 8000000 in
theorem laws_eqRelS.calls (k : Nat) (A0 : Option Addr) (c0 : Nat) (l0 : List (S91)) (A1 : Option Addr) (c1 : Nat) (l1 : List (S91)) (r : Bool) (w : World) (hr0 : Kd.C k91 w A0 l0.length l0) (hc0 : l0.length ≤ c0) (hr1 : Kd.C k91 w A1 l1.length l1) (hc1 : l1.length ≤ c1) (h : laws_eqRelS.f k l0 l1 = some r) :
  Calls Try.prog 28 #[.slice A0 l0.length c0, .slice A1 l1.length c1] w fun e w' => e = .returned (.bool r) ∧ Below w.heap.size w w' := by
 have hu91 := Try.underlying91
 have HR0 := Aside0.mk hr0
 have HC0 := Aside0.mk hc0
 clear hr0 hc0
 have HR1 := Aside0.mk hr1
 have HC1 := Aside0.mk hc1
 clear hr1 hc1
 have HB := Aside0.mk (Below.refl w.heap.size w)
 have H : (if (l0.length : Int) = (l1.length : Int) then (laws_eqRelS.l0 k l0 l1 0) else (some false)) = some r := h
 clear h
 by_cases c3 : (l0.length : Int) = (l1.length : Int)
 ·rw [if_pos c3] at H
  have c3b0 : ((l0.length : Int) == (l1.length : Int)) = true := beq_iff_eq.mpr c3
  have c3b1 : ((l0.length : Int) != (l1.length : Int)) = false := bne_eq_false_iff_eq.mpr c3
  have c3b2 : (l0.length == l1.length) = true := by first | simpa using c3 | (simp at c3 ⊢; omega)
  clear c3
  have H' := Aside0.mk H
  clear H
  go_enter Try.func28, Try.ntmps28
  go_wp2
  go_loopg [5] k (fun kq v5 w' => ∃ (x5_1 : Int), v5 = .int .i64 x5_1 ∧ Aside0 (laws_eqRelS.l0 kq l0 l1 x5_1 = some r) ∧ Aside0 (kq ≤ k) ∧ Aside0 (Below w.heap.size w w'))
  case atStart => exact ⟨(0), rs_, H', ⟨Nat.le_refl _⟩, ⟨bb_⟩⟩
  case round =>
   clear H'
   try clear c1
   try clear c2
   try clear p2
   try clear c3
   try clear c3b0
   try clear c3b1
   try clear c3b2
   obtain ⟨x5_1, rfl, HA, HK1, HB⟩ := hrel
   cases gk with
   | zero => exact absurd HA.out (by simp [laws_eqRelS.l0])
   | succ k1 =>
    have H := HA.out
    clear HA
    simp only [laws_eqRelS.l0] at H
    by_cases c4 : x5_1 < (l0.length : Int)
    ·rw [if_pos c4] at H
     have c4b0 : decide (x5_1 < (l0.length : Int)) = true := decide_eq_true c4
     clear c4
     by_cases c5 : 0 ≤ x5_1
     ·rw [if_pos c5] at H
      have c5b0 : decide (0 ≤ x5_1) = true := decide_eq_true c5
      clear c5
      by_cases c6 : x5_1 < (l1.length : Int)
      ·rw [if_pos c6] at H
       have c6b0 : decide (x5_1 < (l1.length : Int)) = true := decide_eq_true c6
       clear c6
       replace H := Option.bind_eq_some_iff.mp H
       obtain ⟨t383, A70, H⟩ := H
       replace H : (if t383 = true then (laws_eqRelS.l0 k1 l0 l1 (wrap64 (x5_1 + 1))) else (some false)) = some r := H
       have A7 := Aside0.mk A70
       clear A70
       by_cases c8 : t383 = true
       ·subst c8
        have H1 : (laws_eqRelS.l0 k1 l0 l1 (wrap64 (x5_1 + 1))) = some r := by rw [if_pos rfl] at H; exact H
        clear H
        have H := H1
        clear H1
        have H' := Aside0.mk H
        clear H
        try go_wp2
        replace HB := Aside0.mk (below_drew1 HB.out)
        have p381 : 0 ≤ (x5_1 : Int) := od_
        have q381 : x5_1 < (l0.length : Int) := od_
        obtain ⟨ad381, A381_2, c381_2, e381, hx381_0, hx381_1, hx381_2, hl381_2, hi381_2⟩ := at_T91 HR0.out x5_1 p381 q381
        have hw381_2 := hx381_2
        have hw381_1 := hx381_1
        have hw381_0 := hx381_0
        cases e381
        replace hx381_0 := hb_ HB hx381_0
        replace hx381_1 := hb_ HB hx381_1
        replace hx381_2 := hb_ HB hx381_2
        have HR381_2 := Aside0.mk hi381_2
        have HC381_2 := Aside0.mk hl381_2
        clear hi381_2 hl381_2
        replace p381 := eq_true p381
        replace q381 := eq_true q381
        have p382 : 0 ≤ (x5_1 : Int) := od_
        have q382 : x5_1 < (l1.length : Int) := od_
        obtain ⟨ad382, A382_2, c382_2, e382, hx382_0, hx382_1, hx382_2, hl382_2, hi382_2⟩ := at_T91 HR1.out x5_1 p382 q382
        have hw382_2 := hx382_2
        have hw382_1 := hx382_1
        have hw382_0 := hx382_0
        cases e382
        replace hx382_0 := hb_ HB hx382_0
        replace hx382_1 := hb_ HB hx382_1
        replace hx382_2 := hb_ HB hx382_2
        have HR382_2 := Aside0.mk hi382_2
        have HC382_2 := Aside0.mk hl382_2
        clear hi382_2 hl382_2
        replace p382 := eq_true p382
        replace q382 := eq_true q382
        refine start_ (n := 10) (S := fun w' => w'.cell? (ad381.add ((x5_1).toNat * 3)) = some (.string ((rd_T91 l0 x5_1).f0)) ∧ w'.cell? ⟨(ad381.add ((x5_1).toNat * 3)).block, (ad381.add ((x5_1).toNat * 3)).off + 1, none⟩ = some (.int .i64 ((rd_T91 l0 x5_1).f1.f0)) ∧ w'.cell? ⟨(ad381.add ((x5_1).toNat * 3)).block, (ad381.add ((x5_1).toNat * 3)).off + 2, none⟩ = some (.slice A381_2 ((rd_T91 l0 x5_1).f1.f1).length c381_2) ∧ w'.cell? (ad382.add ((x5_1).toNat * 3)) = some (.string ((rd_T91 l1 x5_1).f0)) ∧ w'.cell? ⟨(ad382.add ((x5_1).toNat * 3)).block, (ad382.add ((x5_1).toNat * 3)).off + 1, none⟩ = some (.int .i64 ((rd_T91 l1 x5_1).f1.f0)) ∧ w'.cell? ⟨(ad382.add ((x5_1).toNat * 3)).block, (ad382.add ((x5_1).toNat * 3)).off + 2, none⟩ = some (.slice A382_2 ((rd_T91 l1 x5_1).f1.f1).length c382_2)) (ds := []) (tf 0 10) (by kernel_rfl) rfl rfl ⟨(hb_ HB hw381_0), (hb_ HB hw381_1), (hb_ HB hw381_2), (hb_ HB hw382_0), (hb_ HB hw382_1), (hb_ HB hw382_2)⟩ (fun hHeld => ?_); refine with_tabW laws_eqRelS.tab6 laws_eqRelS.bits6 (fun HT_ HW_ => ?_)
        generalize wr.drew = w9 at HB HR381_2 HR382_2 hx381_0 hx381_1 hx381_2 hx382_0 hx382_1 hx382_2 hHeld ⊢
        iterate 3 (refine pl_ ?_)
        refine plx_ 4 #[true, true, true, false, true, false, false, false, false, false] ?_
        refine plx_ 5 #[true, true, true, false, true, true, false, false, false, false] ?_
        refine plx_ 6 #[true, true, true, false, true, true, true, false, false, false] ?_
        refine tlx_ 3 (tf 7 3) ?_
        refine tl_ ?_
        refine one_ (i := 8) (N := some 25) (tf 9 1) rfl rfl (one_of HT_.out (by kernel_rfl)) (by decide) (fun K hK => ?_)
        refine gs_ Try.func68 #[.agg #[.string ((rd_T91 l0 x5_1).f0), .int .i64 ((rd_T91 l0 x5_1).f1.f0), .slice A381_2 ((rd_T91 l0 x5_1).f1.f1).length c381_2], .agg #[.string ((rd_T91 l1 x5_1).f0), .int .i64 ((rd_T91 l1 x5_1).f1.f0), .slice A382_2 ((rd_T91 l1 x5_1).f1.f1).length c382_2]] ?_
        with_reducible refine (laws_eqRel.calls k1 ((rd_T91 l0 x5_1).f0) ((rd_T91 l0 x5_1).f1.f0) _ _ ((rd_T91 l0 x5_1).f1.f1) ((rd_T91 l1 x5_1).f0) ((rd_T91 l1 x5_1).f1.f0) _ _ ((rd_T91 l1 x5_1).f1.f1) true _ ?side1 ?side2 ?side3 ?side4 A7.out).mono ?_
        (case side1 => exact ck_ (Kd.C_below HR381_2.out HB.out))
        (case side2 => exact HC381_2.out)
        (case side3 => exact ck_ (Kd.C_below HR382_2.out HB.out))
        (case side4 => exact HC382_2.out)
        rintro e w10 ⟨rfl, hb⟩
        refine ⟨_, rfl, ?_⟩
        replace HB := bs_ hb
        (try clear hb)
        (try clear hb2)
        (try clear hk)
        (try clear hi)
        refine hK.out _ _ ⟨(have h_ := hb_ HB hw381_0; h_), (have h_ := hb_ HB hw381_1; h_), (have h_ := hb_ HB hw381_2; h_), (have h_ := hb_ HB hw382_0; h_), (have h_ := hb_ HB hw382_1; h_), (have h_ := hb_ HB hw382_2; h_)⟩ (fun hHeld => ?_)
        clear hK K
        refine nm_ ?_
        refine plx_ 9 (tf 10 0) ?_
        refine done_ (done_of HT_.out (by kernel_rfl)) ?_
        try go_wp2
        go_roundg k1
        case measure => have := HK1.out; omega
        case rel => exact ⟨(wrap64 (x5_1 + 1)), rs_, H', ⟨by have := HK1.out; omega⟩, ⟨bb_⟩⟩
       ·replace c8 := Bool.eq_false_iff.mpr c8
        subst c8
        have H1 : (some false) = some r := by rw [if_neg (show ¬ (false = true) by decide)] at H; exact H
        clear H
        have H := H1
        clear H1
        obtain rfl := Option.some.inj H
        try go_wp2
        replace HB := Aside0.mk (below_drew1 HB.out)
        have p381 : 0 ≤ (x5_1 : Int) := od_
        have q381 : x5_1 < (l0.length : Int) := od_
        obtain ⟨ad381, A381_2, c381_2, e381, hx381_0, hx381_1, hx381_2, hl381_2, hi381_2⟩ := at_T91 HR0.out x5_1 p381 q381
        have hw381_2 := hx381_2
        have hw381_1 := hx381_1
        have hw381_0 := hx381_0
        cases e381
        replace hx381_0 := hb_ HB hx381_0
        replace hx381_1 := hb_ HB hx381_1
        replace hx381_2 := hb_ HB hx381_2
        have HR381_2 := Aside0.mk hi381_2
        have HC381_2 := Aside0.mk hl381_2
        clear hi381_2 hl381_2
        replace p381 := eq_true p381
        replace q381 := eq_true q381
        have p382 : 0 ≤ (x5_1 : Int) := od_
        have q382 : x5_1 < (l1.length : Int) := od_
        obtain ⟨ad382, A382_2, c382_2, e382, hx382_0, hx382_1, hx382_2, hl382_2, hi382_2⟩ := at_T91 HR1.out x5_1 p382 q382
        have hw382_2 := hx382_2
        have hw382_1 := hx382_1
        have hw382_0 := hx382_0
        cases e382
        replace hx382_0 := hb_ HB hx382_0
        replace hx382_1 := hb_ HB hx382_1
        replace hx382_2 := hb_ HB hx382_2
        have HR382_2 := Aside0.mk hi382_2
        have HC382_2 := Aside0.mk hl382_2
        clear hi382_2 hl382_2
        replace p382 := eq_true p382
        replace q382 := eq_true q382
        refine start_ (n := 10) (S := fun w' => w'.cell? (ad381.add ((x5_1).toNat * 3)) = some (.string ((rd_T91 l0 x5_1).f0)) ∧ w'.cell? ⟨(ad381.add ((x5_1).toNat * 3)).block, (ad381.add ((x5_1).toNat * 3)).off + 1, none⟩ = some (.int .i64 ((rd_T91 l0 x5_1).f1.f0)) ∧ w'.cell? ⟨(ad381.add ((x5_1).toNat * 3)).block, (ad381.add ((x5_1).toNat * 3)).off + 2, none⟩ = some (.slice A381_2 ((rd_T91 l0 x5_1).f1.f1).length c381_2) ∧ w'.cell? (ad382.add ((x5_1).toNat * 3)) = some (.string ((rd_T91 l1 x5_1).f0)) ∧ w'.cell? ⟨(ad382.add ((x5_1).toNat * 3)).block, (ad382.add ((x5_1).toNat * 3)).off + 1, none⟩ = some (.int .i64 ((rd_T91 l1 x5_1).f1.f0)) ∧ w'.cell? ⟨(ad382.add ((x5_1).toNat * 3)).block, (ad382.add ((x5_1).toNat * 3)).off + 2, none⟩ = some (.slice A382_2 ((rd_T91 l1 x5_1).f1.f1).length c382_2)) (ds := []) (tf 0 10) (by kernel_rfl) rfl rfl ⟨(hb_ HB hw381_0), (hb_ HB hw381_1), (hb_ HB hw381_2), (hb_ HB hw382_0), (hb_ HB hw382_1), (hb_ HB hw382_2)⟩ (fun hHeld => ?_); refine with_tabW laws_eqRelS.tab6 laws_eqRelS.bits6 (fun HT_ HW_ => ?_)
        generalize wr.drew = w11 at HB HR381_2 HR382_2 hx381_0 hx381_1 hx381_2 hx382_0 hx382_1 hx382_2 hHeld ⊢
        iterate 3 (refine pl_ ?_)
        refine plx_ 4 #[true, true, true, false, true, false, false, false, false, false] ?_
        refine plx_ 5 #[true, true, true, false, true, true, false, false, false, false] ?_
        refine plx_ 6 #[true, true, true, false, true, true, true, false, false, false] ?_
        refine tlx_ 3 (tf 7 3) ?_
        refine tl_ ?_
        refine one_ (i := 8) (N := some 25) (tf 9 1) rfl rfl (one_of HT_.out (by kernel_rfl)) (by decide) (fun K hK => ?_)
        refine gs_ Try.func68 #[.agg #[.string ((rd_T91 l0 x5_1).f0), .int .i64 ((rd_T91 l0 x5_1).f1.f0), .slice A381_2 ((rd_T91 l0 x5_1).f1.f1).length c381_2], .agg #[.string ((rd_T91 l1 x5_1).f0), .int .i64 ((rd_T91 l1 x5_1).f1.f0), .slice A382_2 ((rd_T91 l1 x5_1).f1.f1).length c382_2]] ?_
        with_reducible refine (laws_eqRel.calls k1 ((rd_T91 l0 x5_1).f0) ((rd_T91 l0 x5_1).f1.f0) _ _ ((rd_T91 l0 x5_1).f1.f1) ((rd_T91 l1 x5_1).f0) ((rd_T91 l1 x5_1).f1.f0) _ _ ((rd_T91 l1 x5_1).f1.f1) false _ ?side1 ?side2 ?side3 ?side4 A7.out).mono ?_
        (case side1 => exact ck_ (Kd.C_below HR381_2.out HB.out))
        (case side2 => exact HC381_2.out)
        (case side3 => exact ck_ (Kd.C_below HR382_2.out HB.out))
        (case side4 => exact HC382_2.out)
        rintro e w12 ⟨rfl, hb⟩
        refine ⟨_, rfl, ?_⟩
        replace HB := bs_ hb
        (try clear hb)
        (try clear hb2)
        (try clear hk)
        (try clear hi)
        refine hK.out _ _ ⟨(have h_ := hb_ HB hw381_0; h_), (have h_ := hb_ HB hw381_1; h_), (have h_ := hb_ HB hw381_2; h_), (have h_ := hb_ HB hw382_0; h_), (have h_ := hb_ HB hw382_1; h_), (have h_ := hb_ HB hw382_2; h_)⟩ (fun hHeld => ?_)
        clear hK K
        refine nm_ ?_
        refine plx_ 9 (tf 10 0) ?_
        refine done_ (done_of HT_.out (by kernel_rfl)) ?_
        try go_wp2
        go_ret
        exact ⟨er_, bb_⟩
      ·rw [if_neg c6] at H
       exact absurd H (by simp)
     ·rw [if_neg c5] at H
      exact absurd H (by simp)
    ·rw [if_neg c4] at H
     have c4b0 : decide (x5_1 < (l0.length : Int)) = false := decide_eq_false c4
     clear c4
     obtain rfl := Option.some.inj H
     go_wp2
     go_ret
     exact ⟨er_, bb_⟩
 ·rw [if_neg c3] at H
  have c3b0 : ((l0.length : Int) == (l1.length : Int)) = false := beq_eq_false_iff_ne.mpr c3
  have c3b1 : ((l0.length : Int) != (l1.length : Int)) = true := bne_iff_ne.mpr c3
  have c3b2 : (l0.length == l1.length) = false := by first | simpa using c3 | (simp at c3 ⊢; omega)
  obtain rfl := Option.some.inj H
  go_enter Try.func28, Try.ntmps28
  go_wp2
  go_ret
  exact ⟨er_, bb_⟩

/-! ### laws_FnExactChangeOk: function 5 -/
def laws_FnExactChangeOk.f (k : Nat) (l0 : List (S86)) (l1 : List (S86)) : Option (Bool) := (laws_szRelS.f k l0 1048576).bind fun t384 => (if t384 < 0 then (some true) else ((laws_szRelS.f k l1 t384).bind fun t385 => (if t385 < 0 then (some true) else ((laws_toRelS.f k l0).bind fun t386 => ((laws_toRelS.f k l1).bind fun t389 => ((spec_ChangeOk.f k t386 t389).bind fun t392 => ((laws_toRelS.f k l0).bind fun t393 => ((laws_toRelS.f k l1).bind fun t396 => ((impl_ChangeOk.f k t393 t396).bind fun t399 => (if (t399 != t392) = true then (none) else ((laws_toRelS.f k l0).bind fun t400 => ((laws_eqRelS.f k t393 t400).bind fun t403 => (if t403 = true then ((laws_toRelS.f k l1).bind fun t404 => ((laws_eqRelS.f k t396 t404).bind fun t407 => (if t407 = true then (some true) else (none)))) else (none))))))))))))))
set_option maxHeartbeats 8000000 in
theorem laws_FnExactChangeOk.calls (k : Nat) (A0 : Option Addr) (c0 : Nat) (l0 : List (S86)) (A1 : Option Addr) (c1 : Nat) (l1 : List (S86)) (r : Bool) (w : World) (hr0 : Kd.C k86 w A0 l0.length l0) (hc0 : l0.length ≤ c0) (hr1 : Kd.C k86 w A1 l1.length l1) (hc1 : l1.length ≤ c1) (h : laws_FnExactChangeOk.f k l0 l1 = some r) :
  Calls Try.prog 5 #[.slice A0 l0.length c0, .slice A1 l1.length c1] w fun e w' => e = .returned (.bool r) ∧ Below w.heap.size w w' := by
 have HR0 := Aside0.mk hr0
 have HC0 := Aside0.mk hc0
 clear hr0 hc0
 have HR1 := Aside0.mk hr1
 have HC1 := Aside0.mk hc1
 clear hr1 hc1
 have HB := Aside0.mk (Below.refl w.heap.size w)
 have H : ((laws_szRelS.f k l0 1048576).bind fun t384 => (if t384 < 0 then (some true) else ((laws_szRelS.f k l1 t384).bind fun t385 => (if t385 < 0 then (some true) else ((laws_toRelS.f k l0).bind fun t386 => ((laws_toRelS.f k l1).bind fun t389 => ((spec_ChangeOk.f k t386 t389).bind fun t392 => ((laws_toRelS.f k l0).bind fun t393 => ((laws_toRelS.f k l1).bind fun t396 => ((impl_ChangeOk.f k t393 t396).bind fun t399 => (if (t399 != t392) = true then (none) else ((laws_toRelS.f k l0).bind fun t400 => ((laws_eqRelS.f k t393 t400).bind fun t403 => (if t403 = true then ((laws_toRelS.f k l1).bind fun t404 => ((laws_eqRelS.f k t396 t404).bind fun t407 => (if t407 = true then (some true) else (none)))) else (none))))))))))))))) = some r := h
 clear h
 replace H := Option.bind_eq_some_iff.mp H
 obtain ⟨t384, A30, H⟩ := H
 replace H : (if t384 < 0 then (some true) else ((laws_szRelS.f k l1 t384).bind fun t385 => (if t385 < 0 then (some true) else ((laws_toRelS.f k l0).bind fun t386 => ((laws_toRelS.f k l1).bind fun t389 => ((spec_ChangeOk.f k t386 t389).bind fun t392 => ((laws_toRelS.f k l0).bind fun t393 => ((laws_toRelS.f k l1).bind fun t396 => ((impl_ChangeOk.f k t393 t396).bind fun t399 => (if (t399 != t392) = true then (none) else ((laws_toRelS.f k l0).bind fun t400 => ((laws_eqRelS.f k t393 t400).bind fun t403 => (if t403 = true then ((laws_toRelS.f k l1).bind fun t404 => ((laws_eqRelS.f k t396 t404).bind fun t407 => (if t407 = true then (some true) else (none)))) else (none)))))))))))))) = some r := H
 have A3 := Aside0.mk A30
 clear A30
 by_cases c4 : t384 < 0
 ·rw [if_pos c4] at H
  have c4b0 : decide (t384 < 0) = true := decide_eq_true c4
  clear c4
  obtain rfl := Option.some.inj H
  go_enter Try.func5, Try.ntmps5
  go_wp2_with (first | ((with_reducible refine gate_callee (f := 24) rfl ?_); refine gsL_ (some 12) Try.func24 #[.slice A0 l0.length c0, .int .i64 1048576] ?_; (with_reducible refine (laws_szRelS.calls k _ _ l0 1048576 t384 _ ?side1 ?side2 A3.out).mono ?_); (case side1 => exact ck_ HR0.out); (case side2 => exact HC0.out); rintro e w5 ⟨rfl, hb⟩; refine ⟨_, rfl, ?_⟩; replace HB := bs_ hb; (try clear hb); (try clear hb2); (try clear hk); (try clear hi)))
  go_ret
  exact ⟨er_, bb_⟩
 ·rw [if_neg c4] at H
  have c4b0 : decide (t384 < 0) = false := decide_eq_false c4
  clear c4
  replace H := Option.bind_eq_some_iff.mp H
  obtain ⟨t385, A60, H⟩ := H
  replace H : (if t385 < 0 then (some true) else ((laws_toRelS.f k l0).bind fun t386 => ((laws_toRelS.f k l1).bind fun t389 => ((spec_ChangeOk.f k t386 t389).bind fun t392 => ((laws_toRelS.f k l0).bind fun t393 => ((laws_toRelS.f k l1).bind fun t396 => ((impl_ChangeOk.f k t393 t396).bind fun t399 => (if (t399 != t392) = true then (none) else ((laws_toRelS.f k l0).bind fun t400 => ((laws_eqRelS.f k t393 t400).bind fun t403 => (if t403 = true then ((laws_toRelS.f k l1).bind fun t404 => ((laws_eqRelS.f k t396 t404).bind fun t407 => (if t407 = true then (some true) else (none)))) else (none)))))))))))) = some r := H
  have A6 := Aside0.mk A60
  clear A60
  by_cases c7 : t385 < 0
  ·rw [if_pos c7] at H
   have c7b0 : decide (t385 < 0) = true := decide_eq_true c7
   clear c7
   obtain rfl := Option.some.inj H
   go_enter Try.func5, Try.ntmps5
   go_wp2_with (first | ((with_reducible refine gate_callee (f := 24) rfl ?_); refine gsL_ (some 12) Try.func24 #[.slice A0 l0.length c0, .int .i64 1048576] ?_; (with_reducible refine (laws_szRelS.calls k _ _ l0 1048576 t384 _ ?side1 ?side2 A3.out).mono ?_); (case side1 => exact ck_ HR0.out); (case side2 => exact HC0.out); rintro e w8 ⟨rfl, hb⟩; refine ⟨_, rfl, ?_⟩; replace HB := bs_ hb; (try clear hb); (try clear hb2); (try clear hk); (try clear hi)) | ((with_reducible refine gate_callee (f := 24) rfl ?_); refine gsL_ (some 17) Try.func24 #[.slice A1 l1.length c1, .int .i64 t384] ?_; (with_reducible refine (laws_szRelS.calls k _ _ l1 t384 t385 _ ?side1 ?side2 A6.out).mono ?_); (case side1 => exact ck_ (Kd.C_below HR1.out HB.out)); (case side2 => exact HC1.out); rintro e w9 ⟨rfl, hb⟩; refine ⟨_, rfl, ?_⟩; replace HB := bs_ hb; (try clear hb); (try clear hb2); (try clear hk); (try clear hi)))
   go_ret
   exact ⟨er_, bb_⟩
  ·rw [if_neg c7] at H
   have c7b0 : decide (t385 < 0) = false := decide_eq_false c7
   clear c7
   replace H := Option.bind_eq_some_iff.mp H
   obtain ⟨t386, A100, H⟩ := H
   replace H : ((laws_toRelS.f k l1).bind fun t389 => ((spec_ChangeOk.f k t386 t389).bind fun t392 => ((laws_toRelS.f k l0).bind fun t393 => ((laws_toRelS.f k l1).bind fun t396 => ((impl_ChangeOk.f k t393 t396).bind fun t399 => (if (t399 != t392) = true then (none) else ((laws_toRelS.f k l0).bind fun t400 => ((laws_eqRelS.f k t393 t400).bind fun t403 => (if t403 = true then ((laws_toRelS.f k l1).bind fun t404 => ((laws_eqRelS.f k t396 t404).bind fun t407 => (if t407 = true then (some true) else (none)))) else (none)))))))))) = some r := H
   have A10 := Aside0.mk A100
   clear A100
   replace H := Option.bind_eq_some_iff.mp H
   obtain ⟨t389, A110, H⟩ := H
   replace H : ((spec_ChangeOk.f k t386 t389).bind fun t392 => ((laws_toRelS.f k l0).bind fun t393 => ((laws_toRelS.f k l1).bind fun t396 => ((impl_ChangeOk.f k t393 t396).bind fun t399 => (if (t399 != t392) = true then (none) else ((laws_toRelS.f k l0).bind fun t400 => ((laws_eqRelS.f k t393 t400).bind fun t403 => (if t403 = true then ((laws_toRelS.f k l1).bind fun t404 => ((laws_eqRelS.f k t396 t404).bind fun t407 => (if t407 = true then (some true) else (none)))) else (none))))))))) = some r := H
   have A11 := Aside0.mk A110
   clear A110
   replace H := Option.bind_eq_some_iff.mp H
   obtain ⟨t392, A120, H⟩ := H
   replace H : ((laws_toRelS.f k l0).bind fun t393 => ((laws_toRelS.f k l1).bind fun t396 => ((impl_ChangeOk.f k t393 t396).bind fun t399 => (if (t399 != t392) = true then (none) else ((laws_toRelS.f k l0).bind fun t400 => ((laws_eqRelS.f k t393 t400).bind fun t403 => (if t403 = true then ((laws_toRelS.f k l1).bind fun t404 => ((laws_eqRelS.f k t396 t404).bind fun t407 => (if t407 = true then (some true) else (none)))) else (none)))))))) = some r := H
   have A12 := Aside0.mk A120
   clear A120
   replace H := Option.bind_eq_some_iff.mp H
   obtain ⟨t393, A130, H⟩ := H
   replace H : ((laws_toRelS.f k l1).bind fun t396 => ((impl_ChangeOk.f k t393 t396).bind fun t399 => (if (t399 != t392) = true then (none) else ((laws_toRelS.f k l0).bind fun t400 => ((laws_eqRelS.f k t393 t400).bind fun t403 => (if t403 = true then ((laws_toRelS.f k l1).bind fun t404 => ((laws_eqRelS.f k t396 t404).bind fun t407 => (if t407 = true then (some true) else (none)))) else (none))))))) = some r := H
   have A13 := Aside0.mk A130
   clear A130
   replace H := Option.bind_eq_some_iff.mp H
   obtain ⟨t396, A140, H⟩ := H
   replace H : ((impl_ChangeOk.f k t393 t396).bind fun t399 => (if (t399 != t392) = true then (none) else ((laws_toRelS.f k l0).bind fun t400 => ((laws_eqRelS.f k t393 t400).bind fun t403 => (if t403 = true then ((laws_toRelS.f k l1).bind fun t404 => ((laws_eqRelS.f k t396 t404).bind fun t407 => (if t407 = true then (some true) else (none)))) else (none)))))) = some r := H
   have A14 := Aside0.mk A140
   clear A140
   replace H := Option.bind_eq_some_iff.mp H
   obtain ⟨t399, A150, H⟩ := H
   replace H : (if (t399 != t392) = true then (none) else ((laws_toRelS.f k l0).bind fun t400 => ((laws_eqRelS.f k t393 t400).bind fun t403 => (if t403 = true then ((laws_toRelS.f k l1).bind fun t404 => ((laws_eqRelS.f k t396 t404).bind fun t407 => (if t407 = true then (some true) else (none)))) else (none))))) = some r := H
   have A15 := Aside0.mk A150
   clear A150
   by_cases c16 : (t399 != t392) = true
   ·rw [if_pos c16] at H
    exact absurd H (by simp)
   ·rw [if_neg c16] at H
    have c16b0 : (t399 != t392) = false := by simpa using c16
    (try (have c16b1 : decide (t399 = t392) = true := by simpa using c16))
    (try (have c16b2 : (t399 == t392) = true := by simpa using c16))
    clear c16
    replace H := Option.bind_eq_some_iff.mp H
    obtain ⟨t400, A170, H⟩ := H
    replace H : ((laws_eqRelS.f k t393 t400).bind fun t403 => (if t403 = true then ((laws_toRelS.f k l1).bind fun t404 => ((laws_eqRelS.f k t396 t404).bind fun t407 => (if t407 = true then (some true) else (none)))) else (none))) = some r := H
    have A17 := Aside0.mk A170
    clear A170
    replace H := Option.bind_eq_some_iff.mp H
    obtain ⟨t403, A180, H⟩ := H
    replace H : (if t403 = true then ((laws_toRelS.f k l1).bind fun t404 => ((laws_eqRelS.f k t396 t404).bind fun t407 => (if t407 = true then (some true) else (none)))) else (none)) = some r := H
    have A18 := Aside0.mk A180
    clear A180
    by_cases c19 : t403 = true
    ·subst c19
     have H1 : ((laws_toRelS.f k l1).bind fun t404 => ((laws_eqRelS.f k t396 t404).bind fun t407 => (if t407 = true then (some true) else (none)))) = some r := by rw [if_pos rfl] at H; exact H
     clear H
     have H := H1
     clear H1
     replace H := Option.bind_eq_some_iff.mp H
     obtain ⟨t404, A200, H⟩ := H
     replace H : ((laws_eqRelS.f k t396 t404).bind fun t407 => (if t407 = true then (some true) else (none))) = some r := H
     have A20 := Aside0.mk A200
     clear A200
     replace H := Option.bind_eq_some_iff.mp H
     obtain ⟨t407, A210, H⟩ := H
     replace H : (if t407 = true then (some true) else (none)) = some r := H
     have A21 := Aside0.mk A210
     clear A210
     by_cases c22 : t407 = true
     ·subst c22
      have H1 : (some true) = some r := by rw [if_pos rfl] at H; exact H
      clear H
      have H := H1
      clear H1
      obtain rfl := Option.some.inj H
      go_enter Try.func5, Try.ntmps5
      go_wp2_with (first | ((with_reducible refine gate_callee (f := 24) rfl ?_); refine gsL_ (some 12) Try.func24 #[.slice A0 l0.length c0, .int .i64 1048576] ?_; (with_reducible refine (laws_szRelS.calls k _ _ l0 1048576 t384 _ ?side1 ?side2 A3.out).mono ?_); (case side1 => exact ck_ HR0.out); (case side2 => exact HC0.out); rintro e w23 ⟨rfl, hb⟩; refine ⟨_, rfl, ?_⟩; replace HB := bs_ hb; (try clear hb); (try clear hb2); (try clear hk); (try clear hi)) | ((with_reducible refine gate_callee (f := 24) rfl ?_); refine gsL_ (some 17) Try.func24 #[.slice A1 l1.length c1, .int .i64 t384] ?_; (with_reducible refine (laws_szRelS.calls k _ _ l1 t384 t385 _ ?side1 ?side2 A6.out).mono ?_); (case side1 => exact ck_ (Kd.C_below HR1.out HB.out)); (case side2 => exact HC1.out); rintro e w24 ⟨rfl, hb⟩; refine ⟨_, rfl, ?_⟩; replace HB := bs_ hb; (try clear hb); (try clear hb2); (try clear hk); (try clear hi)) | ((with_reducible refine gate_callee (f := 26) rfl ?_); refine gsL_ (some 21) Try.func26 #[.slice A0 l0.length c0] ?_; (with_reducible refine (laws_toRelS.calls k _ _ l0 t386 _ ?side1 ?side2 A10.out).mono ?_); (case side1 => exact ck_ (Kd.C_below HR0.out HB.out)); (case side2 => exact HC0.out); rintro e w25 ⟨v387, rfl, ho0, hb⟩; refine ⟨_, rfl, ?_⟩; have HO388 := Aside0.mk (Kd.R_lower ho0 (below_size bb_)); replace HB := bs_ hb; (try clear hb); (try clear hb2); (try clear hk); (try clear hi); (try clear ho0)) | ((with_reducible refine gate_callee (f := 26) rfl ?_); refine gsL_ (some 23) Try.func26 #[.slice A1 l1.length c1] ?_; (with_reducible refine (laws_toRelS.calls k _ _ l1 t389 _ ?side1 ?side2 A11.out).mono ?_); (case side1 => exact ck_ (Kd.C_below HR1.out HB.out)); (case side2 => exact HC1.out); rintro e w26 ⟨v390, rfl, ho0, hb⟩; refine ⟨_, rfl, ?_⟩; have HO391 := Aside0.mk (Kd.R_lower (Kd.R_new' ho0 (Kd.R_lt (rk_ HO388.out))) (below_size bb_)); replace HO388 := Aside0.mk (Kd.R_elder' (rk_ HO388.out) (Kd.R_base ho0) hb); replace HB := bs_ hb; (try clear hb); (try clear hb2); (try clear hk); (try clear hi); (try clear ho0); obtain ⟨Ao27, co27, eo27⟩ := Kd.R_slice HO388.out; subst eo27; obtain ⟨Ao28, co28, eo28⟩ := Kd.R_slice HO391.out; subst eo28) | ((with_reducible refine gate_callee (f := 25) rfl ?_); refine gsL_ (some 24) Try.func25 #[.slice Ao27 t386.length co27, .slice Ao28 t389.length co28] ?_; (with_reducible refine (spec_ChangeOk.calls k _ _ t386 _ _ t389 t392 _ ?side1 ?side2 ?side3 ?side4 A12.out).mono ?_); (case side1 => exact ck_ (Kd.R_reads' HO388.out).2.2); (case side2 => exact (Kd.R_reads' HO388.out).2.1); (case side3 => exact ck_ (Kd.R_reads' HO391.out).2.2); (case side4 => exact (Kd.R_reads' HO391.out).2.1); rintro e w29 ⟨rfl, hb⟩; refine ⟨_, rfl, ?_⟩; replace HO388 := Aside0.mk (Kd.R_below (rk_ HO388.out) hb); replace HO391 := Aside0.mk (Kd.R_below (rk_ HO391.out) hb); replace HB := bs_ hb; (try clear hb); (try clear hb2); (try clear hk); (try clear hi)) | ((with_reducible refine gate_callee (f := 26) rfl ?_); refine gsL_ (some 26) Try.func26 #[.slice A0 l0.length c0] ?_; (with_reducible refine (laws_toRelS.calls k _ _ l0 t393 _ ?side1 ?side2 A13.out).mono ?_); (case side1 => exact ck_ (Kd.C_below HR0.out HB.out)); (case side2 => exact HC0.out); rintro e w30 ⟨v394, rfl, ho0, hb⟩; refine ⟨_, rfl, ?_⟩; have HO395 := Aside0.mk (Kd.R_lower (Kd.R_new' (Kd.R_new' ho0 (Kd.R_lt (rk_ HO388.out))) (Kd.R_lt (rk_ HO391.out))) (below_size bb_)); replace HO388 := Aside0.mk (Kd.R_elder' (rk_ HO388.out) (Kd.R_base ho0) hb); replace HO391 := Aside0.mk (Kd.R_elder' (rk_ HO391.out) (Kd.R_base ho0) hb); replace HB := bs_ hb; (try clear hb); (try clear hb2); (try clear hk); (try clear hi); (try clear ho0)) | ((with_reducible refine gate_callee (f := 26) rfl ?_); refine gsL_ (some 28) Try.func26 #[.slice A1 l1.length c1] ?_; (with_reducible refine (laws_toRelS.calls k _ _ l1 t396 _ ?side1 ?side2 A14.out).mono ?_); (case side1 => exact ck_ (Kd.C_below HR1.out HB.out)); (case side2 => exact HC1.out); rintro e w31 ⟨v397, rfl, ho0, hb⟩; refine ⟨_, rfl, ?_⟩; have HO398 := Aside0.mk (Kd.R_lower (Kd.R_new' (Kd.R_new' (Kd.R_new' ho0 (Kd.R_lt (rk_ HO388.out))) (Kd.R_lt (rk_ HO391.out))) (Kd.R_lt (rk_ HO395.out))) (below_size bb_)); replace HO388 := Aside0.mk (Kd.R_elder' (rk_ HO388.out) (Kd.R_base ho0) hb); replace HO391 := Aside0.mk (Kd.R_elder' (rk_ HO391.out) (Kd.R_base ho0) hb); replace HO395 := Aside0.mk (Kd.R_elder' (rk_ HO395.out) (Kd.R_base ho0) hb); replace HB := bs_ hb; (try clear hb); (try clear hb2); (try clear hk); (try clear hi); (try clear ho0); obtain ⟨Ao32, co32, eo32⟩ := Kd.R_slice HO395.out; subst eo32; obtain ⟨Ao33, co33, eo33⟩ := Kd.R_slice HO398.out; subst eo33) | ((with_reducible refine gate_callee (f := 27) rfl ?_); refine gsL_ (some 31) Try.func27 #[.slice Ao32 t393.length co32, .slice Ao33 t396.length co33] ?_; (with_reducible refine (impl_ChangeOk.calls k _ _ t393 _ _ t396 t399 _ ?side1 ?side2 ?side3 ?side4 A15.out).mono ?_); (case side1 => exact ck_ (Kd.R_reads' HO395.out).2.2); (case side2 => exact (Kd.R_reads' HO395.out).2.1); (case side3 => exact ck_ (Kd.R_reads' HO398.out).2.2); (case side4 => exact (Kd.R_reads' HO398.out).2.1); rintro e w34 ⟨rfl, hb⟩; refine ⟨_, rfl, ?_⟩; replace HO388 := Aside0.mk (Kd.R_below (rk_ HO388.out) hb); replace HO391 := Aside0.mk (Kd.R_below (rk_ HO391.out) hb); replace HO395 := Aside0.mk (Kd.R_below (rk_ HO395.out) hb); replace HO398 := Aside0.mk (Kd.R_below (rk_ HO398.out) hb); replace HB := bs_ hb; (try clear hb); (try clear hb2); (try clear hk); (try clear hi)) | ((with_reducible refine gate_callee (f := 26) rfl ?_); refine gsL_ (some 37) Try.func26 #[.slice A0 l0.length c0] ?_; (with_reducible refine (laws_toRelS.calls k _ _ l0 t400 _ ?side1 ?side2 A17.out).mono ?_); (case side1 => exact ck_ (Kd.C_below HR0.out HB.out)); (case side2 => exact HC0.out); rintro e w35 ⟨v401, rfl, ho0, hb⟩; refine ⟨_, rfl, ?_⟩; have HO402 := Aside0.mk (Kd.R_lower (Kd.R_new' (Kd.R_new' (Kd.R_new' (Kd.R_new' ho0 (Kd.R_lt (rk_ HO388.out))) (Kd.R_lt (rk_ HO391.out))) (Kd.R_lt (rk_ HO395.out))) (Kd.R_lt (rk_ HO398.out))) (below_size bb_)); replace HO388 := Aside0.mk (Kd.R_elder' (rk_ HO388.out) (Kd.R_base ho0) hb); replace HO391 := Aside0.mk (Kd.R_elder' (rk_ HO391.out) (Kd.R_base ho0) hb); replace HO395 := Aside0.mk (Kd.R_elder' (rk_ HO395.out) (Kd.R_base ho0) hb); replace HO398 := Aside0.mk (Kd.R_elder' (rk_ HO398.out) (Kd.R_base ho0) hb); replace HB := bs_ hb; (try clear hb); (try clear hb2); (try clear hk); (try clear hi); (try clear ho0); obtain ⟨Ao36, co36, eo36⟩ := Kd.R_slice HO402.out; subst eo36) | ((with_reducible refine gate_callee (f := 28) rfl ?_); refine gsL_ (some 38) Try.func28 #[.slice Ao32 t393.length co32, .slice Ao36 t400.length co36] ?_; (with_reducible refine (laws_eqRelS.calls k _ _ t393 _ _ t400 true _ ?side1 ?side2 ?side3 ?side4 A18.out).mono ?_); (case side1 => exact ck_ (Kd.R_reads' HO395.out).2.2); (case side2 => exact (Kd.R_reads' HO395.out).2.1); (case side3 => exact ck_ (Kd.R_reads' HO402.out).2.2); (case side4 => exact (Kd.R_reads' HO402.out).2.1); rintro e w37 ⟨rfl, hb⟩; refine ⟨_, rfl, ?_⟩; replace HO388 := Aside0.mk (Kd.R_below (rk_ HO388.out) hb); replace HO391 := Aside0.mk (Kd.R_below (rk_ HO391.out) hb); replace HO395 := Aside0.mk (Kd.R_below (rk_ HO395.out) hb); replace HO398 := Aside0.mk (Kd.R_below (rk_ HO398.out) hb); replace HO402 := Aside0.mk (Kd.R_below (rk_ HO402.out) hb); replace HB := bs_ hb; (try clear hb); (try clear hb2); (try clear hk); (try clear hi)) | ((with_reducible refine gate_callee (f := 26) rfl ?_); refine gsL_ (some 42) Try.func26 #[.slice A1 l1.length c1] ?_; (with_reducible refine (laws_toRelS.calls k _ _ l1 t404 _ ?side1 ?side2 A20.out).mono ?_); (case side1 => exact ck_ (Kd.C_below HR1.out HB.out)); (case side2 => exact HC1.out); rintro e w38 ⟨v405, rfl, ho0, hb⟩; refine ⟨_, rfl, ?_⟩; have HO406 := Aside0.mk (Kd.R_lower (Kd.R_new' (Kd.R_new' (Kd.R_new' (Kd.R_new' (Kd.R_new' ho0 (Kd.R_lt (rk_ HO388.out))) (Kd.R_lt (rk_ HO391.out))) (Kd.R_lt (rk_ HO395.out))) (Kd.R_lt (rk_ HO398.out))) (Kd.R_lt (rk_ HO402.out))) (below_size bb_)); replace HO388 := Aside0.mk (Kd.R_elder' (rk_ HO388.out) (Kd.R_base ho0) hb); replace HO391 := Aside0.mk (Kd.R_elder' (rk_ HO391.out) (Kd.R_base ho0) hb); replace HO395 := Aside0.mk (Kd.R_elder' (rk_ HO395.out) (Kd.R_base ho0) hb); replace HO398 := Aside0.mk (Kd.R_elder' (rk_ HO398.out) (Kd.R_base ho0) hb); replace HO402 := Aside0.mk (Kd.R_elder' (rk_ HO402.out) (Kd.R_base ho0) hb); replace HB := bs_ hb; (try clear hb); (try clear hb2); (try clear hk); (try clear hi); (try clear ho0); obtain ⟨Ao39, co39, eo39⟩ := Kd.R_slice HO406.out; subst eo39) | ((with_reducible refine gate_callee (f := 28) rfl ?_); refine gsL_ (some 43) Try.func28 #[.slice Ao33 t396.length co33, .slice Ao39 t404.length co39] ?_; (with_reducible refine (laws_eqRelS.calls k _ _ t396 _ _ t404 true _ ?side1 ?side2 ?side3 ?side4 A21.out).mono ?_); (case side1 => exact ck_ (Kd.R_reads' HO398.out).2.2); (case side2 => exact (Kd.R_reads' HO398.out).2.1); (case side3 => exact ck_ (Kd.R_reads' HO406.out).2.2); (case side4 => exact (Kd.R_reads' HO406.out).2.1); rintro e w40 ⟨rfl, hb⟩; refine ⟨_, rfl, ?_⟩; replace HO388 := Aside0.mk (Kd.R_below (rk_ HO388.out) hb); replace HO391 := Aside0.mk (Kd.R_below (rk_ HO391.out) hb); replace HO395 := Aside0.mk (Kd.R_below (rk_ HO395.out) hb); replace HO398 := Aside0.mk (Kd.R_below (rk_ HO398.out) hb); replace HO402 := Aside0.mk (Kd.R_below (rk_ HO402.out) hb); replace HO406 := Aside0.mk (Kd.R_below (rk_ HO406.out) hb); replace HB := bs_ hb; (try clear hb); (try clear hb2); (try clear hk); (try clear hi)))
      go_ret
      exact ⟨er_, bb_⟩
     ·replace c22 := Bool.eq_false_iff.mpr c22
      subst c22
      have H1 : (none) = some r := by rw [if_neg (show ¬ (false = true) by decide)] at H; exact H
      clear H
      have H := H1
      clear H1
      exact absurd H (by simp)
    ·replace c19 := Bool.eq_false_iff.mpr c19
     subst c19
     have H1 : (none) = some r := by rw [if_neg (show ¬ (false = true) by decide)] at H; exact H
     clear H
     have H := H1
     clear H1
     exact absurd H (by simp)

end Go.Proofs.Ytapgfamppnhnmaa.PFnExactChangeOk
