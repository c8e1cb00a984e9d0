-- WRITTEN BY xprint.py, a program of this session over the kit's printer: by nobody's hand
-- PRESSED
import Derived.Test.YtapgfamppnhnmaaPress
import Derived.Test.YtapgfamppnhnmaaPFnExactAndAllx0
import Derived.Test.YtapgfamppnhnmaaPFnExactAndAllx2
import Derived.Test.YtapgfamppnhnmaaPFnExactAndAllx5
import Derived.Test.YtapgfamppnhnmaaPFnExactAndAllx8
import Derived.Test.YtapgfamppnhnmaaPFnExactAndAllx9
import Derived.Test.YtapgfamppnhnmaaPFnExactAndAllx10
namespace Go.Proofs.Ytapgfamppnhnmaa.PFnExactAndAll
open Go.RowKit Go.Proofs.YtapgfamppnhnmaaW.PrintWords Go.Proofs.YtapgfamppnhnmaaW.PrintLast Go.Proofs.YtapgfamppnhnmaaW.PrintMore
attribute [local go_sem] max2_int min2_int max_two min_two max_three min_three max_four min_four   -- for this text's walks alone
set_option linter.unusedVariables false
set_option linter.unusedSimpArgs false

/-! ### laws_heldExp: function 14 -/
def laws_heldExp.f (k : Nat) (a0_0 : Int) (a0_1 : Int) (a0_2 : Int) (a0_3 : Int) (a0_4 : ByteArray) (a0_5 : ByteArray) (l0_6 : List (S28)) (a1 : Int) : Option (Int) := (laws_heldExpS.f k l0_6 a1).bind fun t359 => (if t359 < 0 then (some (-1)) else (some t359))
set_option maxHeartbeats 8000000 in
set_option maxRecDepth 100000 in
theorem laws_heldExp.calls (k : Nat) (a0_0 : Int) (a0_1 : Int) (a0_2 : Int) (a0_3 : Int) (a0_4 : ByteArray) (a0_5 : ByteArray) (A0_6 : Option Addr) (c0_6 : Nat) (l0_6 : List (S28)) (a1 : Int) (r : Int) (w : World) (hr0_6 : Kd.C k28 w A0_6 l0_6.length l0_6) (hc0_6 : l0_6.length ≤ c0_6) (h : laws_heldExp.f k a0_0 a0_1 a0_2 a0_3 a0_4 a0_5 l0_6 a1 = some r) :
  Calls Try.prog 14 #[.agg #[.int .i64 a0_0, .int .i64 a0_1, .int .i64 a0_2, .int .i64 a0_3, .string a0_4, .string a0_5, .slice A0_6 l0_6.length c0_6], .int .i64 a1] w fun e w' => e = .returned (.int .i64 r) ∧ Below w.heap.size w w' := by
 have hu28 := Try.underlying28
 have HR0_6 := Aside0.mk hr0_6
 have HC0_6 := Aside0.mk hc0_6
 clear hr0_6 hc0_6
 have HB := Aside0.mk (Below.refl w.heap.size w)
 have H : ((laws_heldExpS.f k l0_6 a1).bind fun t359 => (if t359 < 0 then (some (-1)) else (some t359))) = some r := h
 clear h
 replace H := Option.bind_eq_some_iff.mp H
 obtain ⟨t359, A30, H⟩ := H
 replace H : (if t359 < 0 then (some (-1)) else (some t359)) = some r := H
 have A3 := Aside0.mk A30
 clear A30
 by_cases c4 : t359 < 0
 ·rw [if_pos c4] at H
  have c4b0 : decide (t359 < 0) = true := decide_eq_true c4
  clear c4
  obtain rfl := Option.some.inj H
  go_enter Try.func14, Try.ntmps14
  go_wp2_with (first | ((with_reducible refine gate_dst (N := 2) rfl ?_); refine bx_ 2 #[.int .i64 a0_0, .int .i64 a0_1, .int .i64 a0_2, .int .i64 a0_3, .string a0_4, .string a0_5, .slice A0_6 l0_6.length c0_6] 28 ?_; intro gb358 hg w5 hbox hb; have BK358 := Aside0.mk (hbox); have GW358 := gw_ hg; have GE358 := gw_ hg; replace HB := bs_ hb; clear hb hbox hg; obtain ⟨hcz6_0, hcz6_1, hcz6_2, hcz6_3, hcz6_4, hcz6_5, hcz6_6, hfz6_0, hfz6_1, hfz6_2, hfz6_3, hfz6_4, hfz6_5, hfz6_6⟩ := b7_ BK358) | ((with_reducible refine gate_callee (f := 41) rfl ?_); refine gsL_ (some 8) Try.func41 #[.slice A0_6 l0_6.length c0_6, .int .i64 a1] ?_; (with_reducible refine (laws_heldExpS.calls k _ _ l0_6 a1 t359 _ ?side1 ?side2 A3.out).mono ?_); (case side1 => exact ck_ (Kd.C_below HR0_6.out HB.out)); (case side2 => exact HC0_6.out); rintro e w7 ⟨rfl, hb⟩; refine ⟨_, rfl, ?_⟩; replace BK358 := bkb_ BK358 hb; replace HB := bs_ hb; (try clear hb); (try clear hb2); (try clear hk); (try clear hi)))
  go_ret
  exact ⟨er_, bb_⟩
 ·rw [if_neg c4] at H
  have c4b0 : decide (t359 < 0) = false := decide_eq_false c4
  clear c4
  obtain rfl := Option.some.inj H
  go_enter Try.func14, Try.ntmps14
  go_wp2_with (first | ((with_reducible refine gate_dst (N := 2) rfl ?_); refine bx_ 2 #[.int .i64 a0_0, .int .i64 a0_1, .int .i64 a0_2, .int .i64 a0_3, .string a0_4, .string a0_5, .slice A0_6 l0_6.length c0_6] 28 ?_; intro gb358 hg w8 hbox hb; have BK358 := Aside0.mk (hbox); have GW358 := gw_ hg; have GE358 := gw_ hg; replace HB := bs_ hb; clear hb hbox hg; obtain ⟨hcz9_0, hcz9_1, hcz9_2, hcz9_3, hcz9_4, hcz9_5, hcz9_6, hfz9_0, hfz9_1, hfz9_2, hfz9_3, hfz9_4, hfz9_5, hfz9_6⟩ := b7_ BK358) | ((with_reducible refine gate_callee (f := 41) rfl ?_); refine gsL_ (some 8) Try.func41 #[.slice A0_6 l0_6.length c0_6, .int .i64 a1] ?_; (with_reducible refine (laws_heldExpS.calls k _ _ l0_6 a1 t359 _ ?side1 ?side2 A3.out).mono ?_); (case side1 => exact ck_ (Kd.C_below HR0_6.out HB.out)); (case side2 => exact HC0_6.out); rintro e w10 ⟨rfl, hb⟩; refine ⟨_, rfl, ?_⟩; replace BK358 := bkb_ BK358 hb; replace HB := bs_ hb; (try clear hb); (try clear hb2); (try clear hk); (try clear hi)))
  go_ret
  exact ⟨er_, bb_⟩

/-! ### laws_FnExactAndAll: function 3, turned -/
def laws_FnExactAndAll.j0 : Nat → List (S58) → Bool → Int → Int → Int → Int → ByteArray → ByteArray → List (S28) → Int → Int → Int → Int → ByteArray → ByteArray → List (S28) → Option (Bool)
 | 0, _, _, _, _, _, _, _, _, _, _, _, _, _, _, _, _ => none
 | k + 1, x0, x42, x374000, x374001, x374002, x374003, x374004, x374005, x374006, x387000, x387001, x387002, x387003, x387004, x387005, x387006 => if x42 = true then (none) else ((laws_markExp.f k x387000 x387001 x387002 x387003 x387004 x387005 x387006 1).bind fun bt394 => ((laws_heldExp.f k x387000 x387001 x387002 x387003 x387004 x387005 bt394.2 1).bind fun t395 => (if t395 < 0 then (none) else (if t395 = bt394.1 then ((laws_toExpS.f k x0).bind fun t396 => ((impl_AndAll.f k t396).bind fun bt399 => ((laws_eqExp.f k bt399.1 bt399.2.1 bt399.2.2.1 bt399.2.2.2.1 bt399.2.2.2.2.1 bt399.2.2.2.2.2.1 bt399.2.2.2.2.2.2 x374000 x374001 x374002 x374003 x374004 x374005 x374006).bind fun t409 => (if t409 = true then ((laws_heldExp.f k x387000 x387001 x387002 x387003 x387004 x387005 bt394.2 1).bind fun t410 => (if t410 < 0 then (none) else (if t410 = bt394.1 then (some true) else (none)))) else (none))))) else (none)))))
def laws_FnExactAndAll.f (k : Nat) (l0 : List (S58)) : Option (Bool) := (laws_szExpS.f k l0 1048576).bind fun t360 => (if t360 < 0 then (some true) else ((laws_toExpS.f k l0).bind fun t361 => ((spec_AndAll.f k t361).bind fun bt364 => ((laws_toExpS.f k l0).bind fun t374 => ((impl_AndAll.f k t374).bind fun bt377 => ((laws_eqExp.f k bt377.1 bt377.2.1 bt377.2.2.1 bt377.2.2.2.1 bt377.2.2.2.2.1 bt377.2.2.2.2.2.1 bt377.2.2.2.2.2.2 bt364.1 bt364.2.1 bt364.2.2.1 bt364.2.2.2.1 bt364.2.2.2.2.1 bt364.2.2.2.2.2.1 bt364.2.2.2.2.2.2).bind fun t387 => (if t387 = true then ((laws_toExpS.f k l0).bind fun t388 => ((laws_eqExpS.f (laws_eqExp.f k) k t374 t388).bind fun t391 => (if t391 = true then ((laws_markExpS.f k t374 1).bind fun bt392 => (if bt392.1 < 0 then (none) else ((laws_eqExp.f k bt377.1 bt377.2.1 bt377.2.2.1 bt377.2.2.2.1 bt377.2.2.2.2.1 bt377.2.2.2.2.2.1 bt377.2.2.2.2.2.2 bt364.1 bt364.2.1 bt364.2.2.1 bt364.2.2.2.1 bt364.2.2.2.2.1 bt364.2.2.2.2.2.1 bt364.2.2.2.2.2.2).bind fun t393 => (laws_FnExactAndAll.j0 k l0 (!t393) bt364.1 bt364.2.1 bt364.2.2.1 bt364.2.2.2.1 bt364.2.2.2.2.1 bt364.2.2.2.2.2.1 bt364.2.2.2.2.2.2 bt377.1 bt377.2.1 bt377.2.2.1 bt377.2.2.2.1 bt377.2.2.2.2.1 bt377.2.2.2.2.2.1 bt377.2.2.2.2.2.2)))) else (none)))) else (none))))))))
theorem bn_ {wN W0 W : World} (x : Below wN.heap.size wN W0) (h : Ext W0 W := by repeat (first | with_reducible exact Ext.refl | with_reducible apply Ext.alloc | with_reducible apply Ext.drewN | with_reducible apply Ext.drew | exact Ext.refl)) : Below wN.heap.size wN W := by
 induction h with
 | refl => exact x
 | alloc _ o ih => exact below_alloc ih o
 | drewN _ m ih => exact pw_below_drewN ih m
 | drew _ ih => exact below_drew1 ih
set_option maxHeartbeats 8000000 in
set_option maxRecDepth 100000 in
theorem laws_FnExactAndAll.calls (k : Nat) (A0 : Option Addr) (c0 : Nat) (l0 : List (S58)) (r : Bool) (w : World) (hr0 : Kd.C k58 w A0 l0.length l0) (hc0 : l0.length ≤ c0) (h : laws_FnExactAndAll.f k l0 = some r) :
  Calls Try.prog 3 #[.slice A0 l0.length c0] w fun e w' => e = .returned (.bool r) ∧ Below w.heap.size w w' := by
 have hu28 := Try.underlying28
 have HR0 := Aside0.mk hr0
 have HC0 := Aside0.mk hc0
 clear hr0 hc0
 have HB := Aside0.mk (Below.refl w.heap.size w)
 have H : ((laws_szExpS.f k l0 1048576).bind fun t360 => (if t360 < 0 then (some true) else ((laws_toExpS.f k l0).bind fun t361 => ((spec_AndAll.f k t361).bind fun bt364 => ((laws_toExpS.f k l0).bind fun t374 => ((impl_AndAll.f k t374).bind fun bt377 => ((laws_eqExp.f k bt377.1 bt377.2.1 bt377.2.2.1 bt377.2.2.2.1 bt377.2.2.2.2.1 bt377.2.2.2.2.2.1 bt377.2.2.2.2.2.2 bt364.1 bt364.2.1 bt364.2.2.1 bt364.2.2.2.1 bt364.2.2.2.2.1 bt364.2.2.2.2.2.1 bt364.2.2.2.2.2.2).bind fun t387 => (if t387 = true then ((laws_toExpS.f k l0).bind fun t388 => ((laws_eqExpS.f (laws_eqExp.f k) k t374 t388).bind fun t391 => (if t391 = true then ((laws_markExpS.f k t374 1).bind fun bt392 => (if bt392.1 < 0 then (none) else ((laws_eqExp.f k bt377.1 bt377.2.1 bt377.2.2.1 bt377.2.2.2.1 bt377.2.2.2.2.1 bt377.2.2.2.2.2.1 bt377.2.2.2.2.2.2 bt364.1 bt364.2.1 bt364.2.2.1 bt364.2.2.2.1 bt364.2.2.2.2.1 bt364.2.2.2.2.2.1 bt364.2.2.2.2.2.2).bind fun t393 => (laws_FnExactAndAll.j0 k l0 (!t393) bt364.1 bt364.2.1 bt364.2.2.1 bt364.2.2.2.1 bt364.2.2.2.2.1 bt364.2.2.2.2.2.1 bt364.2.2.2.2.2.2 bt377.1 bt377.2.1 bt377.2.2.1 bt377.2.2.2.1 bt377.2.2.2.2.1 bt377.2.2.2.2.2.1 bt377.2.2.2.2.2.2)))) else (none)))) else (none))))))))) = some r := h
 clear h
 replace H := Option.bind_eq_some_iff.mp H
 obtain ⟨t360, A20, H⟩ := H
 replace H : (if t360 < 0 then (some true) else ((laws_toExpS.f k l0).bind fun t361 => ((spec_AndAll.f k t361).bind fun bt364 => ((laws_toExpS.f k l0).bind fun t374 => ((impl_AndAll.f k t374).bind fun bt377 => ((laws_eqExp.f k bt377.1 bt377.2.1 bt377.2.2.1 bt377.2.2.2.1 bt377.2.2.2.2.1 bt377.2.2.2.2.2.1 bt377.2.2.2.2.2.2 bt364.1 bt364.2.1 bt364.2.2.1 bt364.2.2.2.1 bt364.2.2.2.2.1 bt364.2.2.2.2.2.1 bt364.2.2.2.2.2.2).bind fun t387 => (if t387 = true then ((laws_toExpS.f k l0).bind fun t388 => ((laws_eqExpS.f (laws_eqExp.f k) k t374 t388).bind fun t391 => (if t391 = true then ((laws_markExpS.f k t374 1).bind fun bt392 => (if bt392.1 < 0 then (none) else ((laws_eqExp.f k bt377.1 bt377.2.1 bt377.2.2.1 bt377.2.2.2.1 bt377.2.2.2.2.1 bt377.2.2.2.2.2.1 bt377.2.2.2.2.2.2 bt364.1 bt364.2.1 bt364.2.2.1 bt364.2.2.2.1 bt364.2.2.2.2.1 bt364.2.2.2.2.2.1 bt364.2.2.2.2.2.2).bind fun t393 => (laws_FnExactAndAll.j0 k l0 (!t393) bt364.1 bt364.2.1 bt364.2.2.1 bt364.2.2.2.1 bt364.2.2.2.2.1 bt364.2.2.2.2.2.1 bt364.2.2.2.2.2.2 bt377.1 bt377.2.1 bt377.2.2.1 bt377.2.2.2.1 bt377.2.2.2.2.1 bt377.2.2.2.2.2.1 bt377.2.2.2.2.2.2)))) else (none)))) else (none)))))))) = some r := H
 have A2 := Aside0.mk A20
 clear A20
 by_cases c3 : t360 < 0
 ·rw [if_pos c3] at H
  have c3b0 : decide (t360 < 0) = true := decide_eq_true c3
  clear c3
  obtain rfl := Option.some.inj H
  go_enter Try.func3, Try.ntmps3
  go_wp2_with (first | ((with_reducible refine gate_callee (f := 6) rfl ?_); refine gsL_ (some 13) Try.func6 #[.slice A0 l0.length c0, .int .i64 1048576] ?_; (with_reducible refine (laws_szExpS.calls k _ _ l0 1048576 t360 _ ?side1 ?side2 A2.out).mono ?_); (case side1 => exact ck_ HR0.out); (case side2 => exact HC0.out); rintro e w4 ⟨rfl, hb⟩; refine ⟨_, rfl, ?_⟩; replace HB := bs_ hb; (try clear hb); (try clear hb2); (try clear hk); (try clear hi)))
  go_ret
  exact ⟨er_, bb_⟩
 ·rw [if_neg c3] at H
  have c3b0 : decide (t360 < 0) = false := decide_eq_false c3
  clear c3
  replace H := Option.bind_eq_some_iff.mp H
  obtain ⟨t361, A50, H⟩ := H
  replace H : ((spec_AndAll.f k t361).bind fun bt364 => ((laws_toExpS.f k l0).bind fun t374 => ((impl_AndAll.f k t374).bind fun bt377 => ((laws_eqExp.f k bt377.1 bt377.2.1 bt377.2.2.1 bt377.2.2.2.1 bt377.2.2.2.2.1 bt377.2.2.2.2.2.1 bt377.2.2.2.2.2.2 bt364.1 bt364.2.1 bt364.2.2.1 bt364.2.2.2.1 bt364.2.2.2.2.1 bt364.2.2.2.2.2.1 bt364.2.2.2.2.2.2).bind fun t387 => (if t387 = true then ((laws_toExpS.f k l0).bind fun t388 => ((laws_eqExpS.f (laws_eqExp.f k) k t374 t388).bind fun t391 => (if t391 = true then ((laws_markExpS.f k t374 1).bind fun bt392 => (if bt392.1 < 0 then (none) else ((laws_eqExp.f k bt377.1 bt377.2.1 bt377.2.2.1 bt377.2.2.2.1 bt377.2.2.2.2.1 bt377.2.2.2.2.2.1 bt377.2.2.2.2.2.2 bt364.1 bt364.2.1 bt364.2.2.1 bt364.2.2.2.1 bt364.2.2.2.2.1 bt364.2.2.2.2.2.1 bt364.2.2.2.2.2.2).bind fun t393 => (laws_FnExactAndAll.j0 k l0 (!t393) bt364.1 bt364.2.1 bt364.2.2.1 bt364.2.2.2.1 bt364.2.2.2.2.1 bt364.2.2.2.2.2.1 bt364.2.2.2.2.2.2 bt377.1 bt377.2.1 bt377.2.2.1 bt377.2.2.2.1 bt377.2.2.2.2.1 bt377.2.2.2.2.2.1 bt377.2.2.2.2.2.2)))) else (none)))) else (none)))))) = some r := H
  have A5 := Aside0.mk A50
  clear A50
  replace H := Option.bind_eq_some_iff.mp H
  obtain ⟨⟨t364, t365, t366, t367, t368, t369, t370⟩, A60, H⟩ := H
  replace H : ((laws_toExpS.f k l0).bind fun t374 => ((impl_AndAll.f k t374).bind fun bt377 => ((laws_eqExp.f k bt377.1 bt377.2.1 bt377.2.2.1 bt377.2.2.2.1 bt377.2.2.2.2.1 bt377.2.2.2.2.2.1 bt377.2.2.2.2.2.2 t364 t365 t366 t367 t368 t369 t370).bind fun t387 => (if t387 = true then ((laws_toExpS.f k l0).bind fun t388 => ((laws_eqExpS.f (laws_eqExp.f k) k t374 t388).bind fun t391 => (if t391 = true then ((laws_markExpS.f k t374 1).bind fun bt392 => (if bt392.1 < 0 then (none) else ((laws_eqExp.f k bt377.1 bt377.2.1 bt377.2.2.1 bt377.2.2.2.1 bt377.2.2.2.2.1 bt377.2.2.2.2.2.1 bt377.2.2.2.2.2.2 t364 t365 t366 t367 t368 t369 t370).bind fun t393 => (laws_FnExactAndAll.j0 k l0 (!t393) t364 t365 t366 t367 t368 t369 t370 bt377.1 bt377.2.1 bt377.2.2.1 bt377.2.2.2.1 bt377.2.2.2.2.1 bt377.2.2.2.2.2.1 bt377.2.2.2.2.2.2)))) else (none)))) else (none))))) = some r := H
  have A6 := Aside0.mk A60
  clear A60
  replace H := Option.bind_eq_some_iff.mp H
  obtain ⟨t374, A70, H⟩ := H
  replace H : ((impl_AndAll.f k t374).bind fun bt377 => ((laws_eqExp.f k bt377.1 bt377.2.1 bt377.2.2.1 bt377.2.2.2.1 bt377.2.2.2.2.1 bt377.2.2.2.2.2.1 bt377.2.2.2.2.2.2 t364 t365 t366 t367 t368 t369 t370).bind fun t387 => (if t387 = true then ((laws_toExpS.f k l0).bind fun t388 => ((laws_eqExpS.f (laws_eqExp.f k) k t374 t388).bind fun t391 => (if t391 = true then ((laws_markExpS.f k t374 1).bind fun bt392 => (if bt392.1 < 0 then (none) else ((laws_eqExp.f k bt377.1 bt377.2.1 bt377.2.2.1 bt377.2.2.2.1 bt377.2.2.2.2.1 bt377.2.2.2.2.2.1 bt377.2.2.2.2.2.2 t364 t365 t366 t367 t368 t369 t370).bind fun t393 => (laws_FnExactAndAll.j0 k l0 (!t393) t364 t365 t366 t367 t368 t369 t370 bt377.1 bt377.2.1 bt377.2.2.1 bt377.2.2.2.1 bt377.2.2.2.2.1 bt377.2.2.2.2.2.1 bt377.2.2.2.2.2.2)))) else (none)))) else (none)))) = some r := H
  have A7 := Aside0.mk A70
  clear A70
  replace H := Option.bind_eq_some_iff.mp H
  obtain ⟨⟨t377, t378, t379, t380, t381, t382, t383⟩, A80, H⟩ := H
  replace H : ((laws_eqExp.f k t377 t378 t379 t380 t381 t382 t383 t364 t365 t366 t367 t368 t369 t370).bind fun t387 => (if t387 = true then ((laws_toExpS.f k l0).bind fun t388 => ((laws_eqExpS.f (laws_eqExp.f k) k t374 t388).bind fun t391 => (if t391 = true then ((laws_markExpS.f k t374 1).bind fun bt392 => (if bt392.1 < 0 then (none) else ((laws_eqExp.f k t377 t378 t379 t380 t381 t382 t383 t364 t365 t366 t367 t368 t369 t370).bind fun t393 => (laws_FnExactAndAll.j0 k l0 (!t393) t364 t365 t366 t367 t368 t369 t370 t377 t378 t379 t380 t381 t382 t383)))) else (none)))) else (none))) = some r := H
  have A8 := Aside0.mk A80
  clear A80
  replace H := Option.bind_eq_some_iff.mp H
  obtain ⟨t387, A90, H⟩ := H
  replace H : (if t387 = true then ((laws_toExpS.f k l0).bind fun t388 => ((laws_eqExpS.f (laws_eqExp.f k) k t374 t388).bind fun t391 => (if t391 = true then ((laws_markExpS.f k t374 1).bind fun bt392 => (if bt392.1 < 0 then (none) else ((laws_eqExp.f k t377 t378 t379 t380 t381 t382 t383 t364 t365 t366 t367 t368 t369 t370).bind fun t393 => (laws_FnExactAndAll.j0 k l0 (!t393) t364 t365 t366 t367 t368 t369 t370 t377 t378 t379 t380 t381 t382 t383)))) else (none)))) else (none)) = some r := H
  have A9 := Aside0.mk A90
  clear A90
  by_cases c10 : t387 = true
  ·subst c10
   have H1 : ((laws_toExpS.f k l0).bind fun t388 => ((laws_eqExpS.f (laws_eqExp.f k) k t374 t388).bind fun t391 => (if t391 = true then ((laws_markExpS.f k t374 1).bind fun bt392 => (if bt392.1 < 0 then (none) else ((laws_eqExp.f k t377 t378 t379 t380 t381 t382 t383 t364 t365 t366 t367 t368 t369 t370).bind fun t393 => (laws_FnExactAndAll.j0 k l0 (!t393) t364 t365 t366 t367 t368 t369 t370 t377 t378 t379 t380 t381 t382 t383)))) else (none)))) = some r := by rw [if_pos rfl] at H; exact H
   clear H
   have H := H1
   clear H1
   replace H := Option.bind_eq_some_iff.mp H
   obtain ⟨t388, A110, H⟩ := H
   replace H : ((laws_eqExpS.f (laws_eqExp.f k) k t374 t388).bind fun t391 => (if t391 = true then ((laws_markExpS.f k t374 1).bind fun bt392 => (if bt392.1 < 0 then (none) else ((laws_eqExp.f k t377 t378 t379 t380 t381 t382 t383 t364 t365 t366 t367 t368 t369 t370).bind fun t393 => (laws_FnExactAndAll.j0 k l0 (!t393) t364 t365 t366 t367 t368 t369 t370 t377 t378 t379 t380 t381 t382 t383)))) else (none))) = some r := H
   have A11 := Aside0.mk A110
   clear A110
   replace H := Option.bind_eq_some_iff.mp H
   obtain ⟨t391, A120, H⟩ := H
   replace H : (if t391 = true then ((laws_markExpS.f k t374 1).bind fun bt392 => (if bt392.1 < 0 then (none) else ((laws_eqExp.f k t377 t378 t379 t380 t381 t382 t383 t364 t365 t366 t367 t368 t369 t370).bind fun t393 => (laws_FnExactAndAll.j0 k l0 (!t393) t364 t365 t366 t367 t368 t369 t370 t377 t378 t379 t380 t381 t382 t383)))) else (none)) = some r := H
   have A12 := Aside0.mk A120
   clear A120
   by_cases c13 : t391 = true
   ·subst c13
    have H1 : ((laws_markExpS.f k t374 1).bind fun bt392 => (if bt392.1 < 0 then (none) else ((laws_eqExp.f k t377 t378 t379 t380 t381 t382 t383 t364 t365 t366 t367 t368 t369 t370).bind fun t393 => (laws_FnExactAndAll.j0 k l0 (!t393) t364 t365 t366 t367 t368 t369 t370 t377 t378 t379 t380 t381 t382 t383)))) = some r := by rw [if_pos rfl] at H; exact H
    clear H
    have H := H1
    clear H1
    replace H := Option.bind_eq_some_iff.mp H
    obtain ⟨⟨t392, m374⟩, A140, H⟩ := H
    replace H : (if t392 < 0 then (none) else ((laws_eqExp.f k t377 t378 t379 t380 t381 t382 t383 t364 t365 t366 t367 t368 t369 t370).bind fun t393 => (laws_FnExactAndAll.j0 k l0 (!t393) t364 t365 t366 t367 t368 t369 t370 t377 t378 t379 t380 t381 t382 t383))) = some r := H
    have A14 := Aside0.mk A140
    clear A140
    have HC15 := Aside0.mk H
    clear H
    go_enter Try.func3, Try.ntmps3
    go_upto_region 14 with (first | ((with_reducible refine gate_callee (f := 6) rfl ?_); refine gsL_ (some 13) Try.func6 #[.slice A0 l0.length c0, .int .i64 1048576] ?_; (with_reducible refine (laws_szExpS.calls k _ _ l0 1048576 t360 _ ?side1 ?side2 A2.out).mono ?_); (case side1 => exact ck_ HR0.out); (case side2 => exact HC0.out); rintro e w16 ⟨rfl, hb⟩; refine ⟨_, rfl, ?_⟩; replace HB := bs_ hb; (try clear hb); (try clear hb2); (try clear hk); (try clear hi)) | ((with_reducible refine gate_callee (f := 8) rfl ?_); refine gsL_ (some 17) Try.func8 #[.slice A0 l0.length c0] ?_; (with_reducible refine (laws_toExpS.calls k _ _ l0 t361 _ ?side1 ?side2 A5.out).mono ?_); (case side1 => exact ck_ (Kd.C_below HR0.out HB.out)); (case side2 => exact HC0.out); rintro e w17 ⟨v362, rfl, ho0, hb⟩; refine ⟨_, rfl, ?_⟩; have HO363 := Aside0.mk (Kd.N_lower (Kd.N_mono (ok' := fun k_ => True) (Kd.S_N (Kd.S_bound ho0)) (fun k_ hk_ => trivial)) (below_size bb_)); replace HB := bs_ hb; (try clear hb); (try clear hb2); (try clear hk); (try clear hi); (try clear ho0); obtain ⟨Ao18, co18, eo18⟩ := Kd.N_slice HO363.out; subst eo18) | ((with_reducible refine gate_callee (f := 7) rfl ?_); refine gsL_ (some 18) Try.func7 #[.slice Ao18 t361.length co18] ?_; (with_reducible refine (spec_AndAll.calls k _ _ t361 t364 t365 t366 t367 t368 t369 t370 _ ?side1 ?side2 A6.out).mono ?_); (case side1 => exact ck_ (Kd.N_reads' HO363.out).2.2); (case side2 => exact (Kd.N_reads' HO363.out).2.1); rintro e w19 ⟨v371, rfl, ho0, hb⟩; refine ⟨_, rfl, ?_⟩; have HO372 := Aside0.mk (Kd.N_lower (Kd.N_mono (ok' := fun k_ => some k_ ≠ (.slice Ao18 t361.length co18 : Value).ownBlock) ho0 (fun k_ hk_ => (Kd.fresh' (Kd.N_lt (by (with_reducible repeat (first | apply Kd.N_alloc | apply Kd.N_drewN | apply Kd.N_drew)); exact HO363.out)) k_ hk_))) (below_size bb_)); replace HO363 := Aside0.mk (Kd.N_elder' (by (with_reducible repeat (first | apply Kd.N_alloc | apply Kd.N_drewN | apply Kd.N_drew)); exact HO363.out) (Kd.N_base ho0) hb); replace HB := bs_ hb; (try clear hb); (try clear hb2); (try clear hk); (try clear hi); (try clear ho0)) | ((with_reducible refine gate_dst (N := 4) rfl ?_); refine bx_ 4 #[.int .i64 0, .int .i64 0, .int .i64 0, .int .i64 0, .string (⟨#[]⟩ : ByteArray), .string (⟨#[]⟩ : ByteArray), .slice none 0 0] 28 ?_; intro gb373 hg w20 hbox hb; have BK373 := Aside0.mk (hbox); have GW373 := gw_ hg; have GE373 := gw_ hg; replace HO363 := Aside0.mk (Kd.N_below (Kd.N_elderB (by (with_reducible repeat (first | apply Kd.N_alloc | apply Kd.N_drewN | apply Kd.N_drew)); exact HO363.out) gb373 (Nat.le_of_eq hg.symm)) hb); replace HO372 := Aside0.mk (Kd.N_below (Kd.N_elderB (by (with_reducible repeat (first | apply Kd.N_alloc | apply Kd.N_drewN | apply Kd.N_drew)); exact HO372.out) gb373 (Nat.le_of_eq hg.symm)) hb); replace HB := bs_ hb; clear hb hbox hg; obtain ⟨hcz21_0, hcz21_1, hcz21_2, hcz21_3, hcz21_4, hcz21_5, hcz21_6, hfz21_0, hfz21_1, hfz21_2, hfz21_3, hfz21_4, hfz21_5, hfz21_6⟩ := b7_ BK373; obtain ⟨Ao22, co22, eo22⟩ := Kd.N_slice HO372.out; subst eo22) | ((with_reducible refine gate_callee (f := 8) rfl ?_); refine gsL_ (some 20) Try.func8 #[.slice A0 l0.length c0] ?_; (with_reducible refine (laws_toExpS.calls k _ _ l0 t374 _ ?side1 ?side2 A7.out).mono ?_); (case side1 => exact Kd.C_below HR0.out bb_); (case side2 => exact HC0.out); rintro e w23 ⟨v375, rfl, ho0, hb⟩; refine ⟨_, rfl, ?_⟩; obtain ⟨wX, fXB, fw, fg, fX0, fX1⟩ : ∃ wX : World, Aside0 (Below wX.heap.size wX w23) ∧ Aside0 (Below w.heap.size w wX) ∧ Aside0 (gb373 < wX.heap.size) ∧ Aside0 (Kd.N k28 28 w23 w.heap.size (fun k_ => k_ < wX.heap.size ∧ k_ ≠ gb373) (.slice Ao22 t370.length co22) t370) ∧ Aside0 (Kd.S k28 28 w23 wX.heap.size (fun _ => True) v375 t374) := ⟨_, ⟨hb⟩, ⟨bb_⟩, ⟨blk_lt (g := gb373) (bp7_ (bkx_ BK373.out))⟩, ⟨Kd.N_mono (Kd.N_old (by (with_reducible repeat (first | apply Kd.N_alloc | apply Kd.N_drewN | apply Kd.N_drew)); exact (Kd.N_mono (Kd.N_far (p := ⟨gb373, 6, none⟩) (Kd.N_far (p := ⟨gb373, 5, none⟩) (Kd.N_far (p := ⟨gb373, 4, none⟩) (Kd.N_far (p := ⟨gb373, 3, none⟩) (Kd.N_far (p := ⟨gb373, 2, none⟩) (Kd.N_far (p := ⟨gb373, 1, none⟩) (Kd.N_far (p := ⟨gb373, 0, none⟩) (Kd.N_mono HO372.out (fun k_ hk => (⟨hk, hk.2⟩ : _ ∧ k_ ≠ gb373))) (fun _ hk => hk.2) (.int .i64 t364)) (fun _ hk => hk.2) (.int .i64 t365)) (fun _ hk => hk.2) (.int .i64 t366)) (fun _ hk => hk.2) (.int .i64 t367)) (fun _ hk => hk.2) (.string t368)) (fun _ hk => hk.2) (.string t369)) (fun _ hk => hk.2) (.slice Ao22 t370.length co22)) (fun _ h_ => h_.1))) hb) (fun k_ (h_ : (some k_ ≠ (.slice Ao18 t361.length co18 : Value).ownBlock ∧ k_ ≠ gb373) ∧ k_ < _) => ⟨h_.2, h_.1.2⟩)⟩, ⟨ho0⟩⟩; have HO376 := Aside0.mk (Kd.N_lower (Kd.N_mono (ok' := fun k_ => some k_ ≠ (.slice Ao18 t361.length co18 : Value).ownBlock ∧ some k_ ≠ (.slice Ao22 t370.length co22 : Value).ownBlock ∧ k_ ≠ gb373) (Kd.S_N (Kd.S_bound ho0)) (fun k_ hk_ => ⟨(Kd.fresh' (Kd.N_lt (by (with_reducible repeat (first | apply Kd.N_alloc | apply Kd.N_drewN | apply Kd.N_drew)); exact (Kd.N_mono (Kd.N_far (p := ⟨gb373, 6, none⟩) (Kd.N_far (p := ⟨gb373, 5, none⟩) (Kd.N_far (p := ⟨gb373, 4, none⟩) (Kd.N_far (p := ⟨gb373, 3, none⟩) (Kd.N_far (p := ⟨gb373, 2, none⟩) (Kd.N_far (p := ⟨gb373, 1, none⟩) (Kd.N_far (p := ⟨gb373, 0, none⟩) (Kd.N_mono HO363.out (fun k_ hk => (⟨hk, hk.2⟩ : _ ∧ k_ ≠ gb373))) (fun _ hk => hk.2) (.int .i64 t364)) (fun _ hk => hk.2) (.int .i64 t365)) (fun _ hk => hk.2) (.int .i64 t366)) (fun _ hk => hk.2) (.int .i64 t367)) (fun _ hk => hk.2) (.string t368)) (fun _ hk => hk.2) (.string t369)) (fun _ hk => hk.2) (.slice Ao22 t370.length co22)) (fun _ h_ => h_.1)))) k_ hk_.2.1), (Kd.fresh' (Kd.N_lt (by (with_reducible repeat (first | apply Kd.N_alloc | apply Kd.N_drewN | apply Kd.N_drew)); exact (Kd.N_mono (Kd.N_far (p := ⟨gb373, 6, none⟩) (Kd.N_far (p := ⟨gb373, 5, none⟩) (Kd.N_far (p := ⟨gb373, 4, none⟩) (Kd.N_far (p := ⟨gb373, 3, none⟩) (Kd.N_far (p := ⟨gb373, 2, none⟩) (Kd.N_far (p := ⟨gb373, 1, none⟩) (Kd.N_far (p := ⟨gb373, 0, none⟩) (Kd.N_mono HO372.out (fun k_ hk => (⟨hk, hk.2⟩ : _ ∧ k_ ≠ gb373))) (fun _ hk => hk.2) (.int .i64 t364)) (fun _ hk => hk.2) (.int .i64 t365)) (fun _ hk => hk.2) (.int .i64 t366)) (fun _ hk => hk.2) (.int .i64 t367)) (fun _ hk => hk.2) (.string t368)) (fun _ hk => hk.2) (.string t369)) (fun _ hk => hk.2) (.slice Ao22 t370.length co22)) (fun _ h_ => h_.1)))) k_ hk_.2.1), (Kd.freshB (g := gb373) (o := .cells #[.int .i64 t364, .int .i64 t365, .int .i64 t366, .int .i64 t367, .string t368, .string t369, .slice Ao22 t370.length co22] 28 (0, 0)) (bp7_ (bkx_ BK373.out)) k_ hk_.2.1)⟩)) (below_size bb_)); replace HO363 := Aside0.mk (Kd.N_elder' (by (with_reducible repeat (first | apply Kd.N_alloc | apply Kd.N_drewN | apply Kd.N_drew)); exact (Kd.N_mono (Kd.N_far (p := ⟨gb373, 6, none⟩) (Kd.N_far (p := ⟨gb373, 5, none⟩) (Kd.N_far (p := ⟨gb373, 4, none⟩) (Kd.N_far (p := ⟨gb373, 3, none⟩) (Kd.N_far (p := ⟨gb373, 2, none⟩) (Kd.N_far (p := ⟨gb373, 1, none⟩) (Kd.N_far (p := ⟨gb373, 0, none⟩) (Kd.N_mono HO363.out (fun k_ hk => (⟨hk, hk.2⟩ : _ ∧ k_ ≠ gb373))) (fun _ hk => hk.2) (.int .i64 t364)) (fun _ hk => hk.2) (.int .i64 t365)) (fun _ hk => hk.2) (.int .i64 t366)) (fun _ hk => hk.2) (.int .i64 t367)) (fun _ hk => hk.2) (.string t368)) (fun _ hk => hk.2) (.string t369)) (fun _ hk => hk.2) (.slice Ao22 t370.length co22)) (fun _ h_ => h_.1))) (Kd.S_base ho0) hb); replace HO372 := Aside0.mk (Kd.N_elder' (by (with_reducible repeat (first | apply Kd.N_alloc | apply Kd.N_drewN | apply Kd.N_drew)); exact (Kd.N_mono (Kd.N_far (p := ⟨gb373, 6, none⟩) (Kd.N_far (p := ⟨gb373, 5, none⟩) (Kd.N_far (p := ⟨gb373, 4, none⟩) (Kd.N_far (p := ⟨gb373, 3, none⟩) (Kd.N_far (p := ⟨gb373, 2, none⟩) (Kd.N_far (p := ⟨gb373, 1, none⟩) (Kd.N_far (p := ⟨gb373, 0, none⟩) (Kd.N_mono HO372.out (fun k_ hk => (⟨hk, hk.2⟩ : _ ∧ k_ ≠ gb373))) (fun _ hk => hk.2) (.int .i64 t364)) (fun _ hk => hk.2) (.int .i64 t365)) (fun _ hk => hk.2) (.int .i64 t366)) (fun _ hk => hk.2) (.int .i64 t367)) (fun _ hk => hk.2) (.string t368)) (fun _ hk => hk.2) (.string t369)) (fun _ hk => hk.2) (.slice Ao22 t370.length co22)) (fun _ h_ => h_.1))) (Kd.S_base ho0) hb); replace BK373 := Aside0.mk (blk_below (g := gb373) (o := .cells #[.int .i64 t364, .int .i64 t365, .int .i64 t366, .int .i64 t367, .string t368, .string t369, .slice Ao22 t370.length co22] 28 (0, 0)) (bp7_ (bkx_ BK373.out)) hb); replace HB := bs_ hb; (try clear hb); (try clear hb2); (try clear hk); (try clear hi); (try clear ho0); obtain ⟨Ao24, co24, eo24⟩ := Kd.N_slice HO376.out; subst eo24) | ((with_reducible refine gate_callee (f := 9) rfl ?_); refine gsL_ (some 22) Try.func9 #[.slice Ao24 t374.length co24] ?_; (with_reducible refine (impl_AndAll.calls k _ _ t374 t377 t378 t379 t380 t381 t382 t383 _ ?side1 ?side2 A8.out).mono ?_); (case side1 => exact ck_ (Kd.N_reads' HO376.out).2.2); (case side2 => exact (Kd.N_reads' HO376.out).2.1); rintro e w25 ⟨v384, rfl, ho0, hb⟩; refine ⟨_, rfl, ?_⟩; obtain ⟨nN, gN0, gle, gXB, gX0, gX1, gN1⟩ : ∃ nN : Nat, Aside0 (nN ≤ w25.heap.size) ∧ Aside0 (wX.heap.size ≤ nN) ∧ Aside0 (Below wX.heap.size wX w25) ∧ Aside0 (Kd.N k28 28 w25 w.heap.size (fun k_ => k_ < wX.heap.size ∧ k_ ≠ gb373) (.slice Ao22 t370.length co22) t370) ∧ Aside0 (Kd.S k28 28 w25 wX.heap.size (fun k_ => k_ < nN) (.slice Ao24 t374.length co24) t374) ∧ Aside0 (Kd.S k28 28 w25 wX.heap.size (fun k_ => nN ≤ k_ ∧ k_ < w25.heap.size) v384 t383) := ⟨_, ⟨below_size hb⟩, ⟨below_size (bn_ fXB.out)⟩, ⟨below_step (bn_ fXB.out) hb⟩, ⟨Kd.N_below (by (with_reducible repeat (first | apply Kd.N_alloc | apply Kd.N_drewN | apply Kd.N_drew)); exact fX0.out) hb⟩, ⟨Kd.S_mono (Kd.S_old (sk_ fX1.out) hb) (fun _ h_ => h_.2)⟩, ⟨Kd.S_lower (Kd.S_mono (Kd.S_bound ho0) (fun _ h_ => ⟨h_.2.1, h_.2.2.1⟩)) (below_size (bn_ fXB.out))⟩⟩; clear fXB fX0 fX1; have fQ := Aside0.mk (Below.refl w25.heap.size w25); have ho1 := Kd.S_N ho0; have HO385 := Aside0.mk (Kd.N_lower (Kd.N_mono (ok' := fun k_ => some k_ ≠ (.slice Ao18 t361.length co18 : Value).ownBlock ∧ some k_ ≠ (.slice Ao22 t370.length co22 : Value).ownBlock ∧ some k_ ≠ (.slice Ao24 t374.length co24 : Value).ownBlock ∧ k_ ≠ gb373) ho1 (fun k_ hk_ => ⟨(Kd.fresh' (Kd.N_lt (by (with_reducible repeat (first | apply Kd.N_alloc | apply Kd.N_drewN | apply Kd.N_drew)); exact HO363.out)) k_ hk_), (Kd.fresh' (Kd.N_lt (by (with_reducible repeat (first | apply Kd.N_alloc | apply Kd.N_drewN | apply Kd.N_drew)); exact HO372.out)) k_ hk_), (Kd.fresh' (Kd.N_lt (by (with_reducible repeat (first | apply Kd.N_alloc | apply Kd.N_drewN | apply Kd.N_drew)); exact HO376.out)) k_ hk_), (Kd.freshB (g := gb373) (o := .cells #[.int .i64 t364, .int .i64 t365, .int .i64 t366, .int .i64 t367, .string t368, .string t369, .slice Ao22 t370.length co22] 28 (0, 0)) (bkx_ BK373.out) k_ hk_)⟩)) (below_size bb_)); replace HO363 := Aside0.mk (Kd.N_elder' (by (with_reducible repeat (first | apply Kd.N_alloc | apply Kd.N_drewN | apply Kd.N_drew)); exact HO363.out) (Kd.N_base ho1) hb); replace HO372 := Aside0.mk (Kd.N_elder' (by (with_reducible repeat (first | apply Kd.N_alloc | apply Kd.N_drewN | apply Kd.N_drew)); exact HO372.out) (Kd.N_base ho1) hb); replace HO376 := Aside0.mk (Kd.N_elder' (by (with_reducible repeat (first | apply Kd.N_alloc | apply Kd.N_drewN | apply Kd.N_drew)); exact HO376.out) (Kd.N_base ho1) hb); replace BK373 := bkb_ BK373 hb; replace HB := bs_ hb; (try clear hb); (try clear hb2); (try clear hk); (try clear hi); (try clear ho1); (try clear ho0)) | ((with_reducible refine gate_dst (N := 6) rfl ?_); refine bx_ 6 #[.int .i64 0, .int .i64 0, .int .i64 0, .int .i64 0, .string (⟨#[]⟩ : ByteArray), .string (⟨#[]⟩ : ByteArray), .slice none 0 0] 28 ?_; intro gb386 hg w26 hbox hb; have BK386 := Aside0.mk (hbox); have GW386 := gw_ hg; have GE386 := gw_ hg; have NB373_386 := nl_ hg BK373; have NB386_373 := ng_ hg BK373; have fg2 := Aside0.mk (show ¬ gb386 < w25.heap.size from by rw [hg]; exact Nat.not_lt_of_le (below_size (bn_ fQ.out))); replace fQ := Aside0.mk (below_step (bn_ fQ.out) hb); replace HO363 := Aside0.mk (Kd.N_below (Kd.N_elderB (by (with_reducible repeat (first | apply Kd.N_alloc | apply Kd.N_drewN | apply Kd.N_drew)); exact HO363.out) gb386 (Nat.le_of_eq hg.symm)) hb); replace HO372 := Aside0.mk (Kd.N_below (Kd.N_elderB (by (with_reducible repeat (first | apply Kd.N_alloc | apply Kd.N_drewN | apply Kd.N_drew)); exact HO372.out) gb386 (Nat.le_of_eq hg.symm)) hb); replace HO376 := Aside0.mk (Kd.N_below (Kd.N_elderB (by (with_reducible repeat (first | apply Kd.N_alloc | apply Kd.N_drewN | apply Kd.N_drew)); exact HO376.out) gb386 (Nat.le_of_eq hg.symm)) hb); replace HO385 := Aside0.mk (Kd.N_below (Kd.N_elderB (by (with_reducible repeat (first | apply Kd.N_alloc | apply Kd.N_drewN | apply Kd.N_drew)); exact HO385.out) gb386 (Nat.le_of_eq hg.symm)) hb); replace BK373 := bkb_ BK373 hb; replace HB := bs_ hb; clear hb hbox hg; have hnb27 := NB386_373.out; have hnc27 := NB373_386.out; obtain ⟨hcz28_0, hcz28_1, hcz28_2, hcz28_3, hcz28_4, hcz28_5, hcz28_6, hfz28_0, hfz28_1, hfz28_2, hfz28_3, hfz28_4, hfz28_5, hfz28_6⟩ := b7_ BK386; obtain ⟨Ao29, co29, eo29⟩ := Kd.N_slice HO385.out; subst eo29; obtain ⟨hcz30_0, hcz30_1, hcz30_2, hcz30_3, hcz30_4, hcz30_5, hcz30_6, hfz30_0, hfz30_1, hfz30_2, hfz30_3, hfz30_4, hfz30_5, hfz30_6⟩ := b7_ BK373) | ((with_reducible refine gate_callee (f := 10) rfl ?_); refine gsL_ (some 25) Try.func10 #[.agg #[.int .i64 t377, .int .i64 t378, .int .i64 t379, .int .i64 t380, .string t381, .string t382, .slice Ao29 t383.length co29], .agg #[.int .i64 t364, .int .i64 t365, .int .i64 t366, .int .i64 t367, .string t368, .string t369, .slice Ao22 t370.length co22]] ?_; (with_reducible refine (laws_eqExp.calls k t377 t378 t379 t380 t381 t382 _ _ t383 t364 t365 t366 t367 t368 t369 _ _ t370 true _ ?side1 ?side2 ?side3 ?side4 A9.out).mono ?_); (case side1 => refine (Kd.N_reads' (e := 28) (base := w.heap.size) (ok := fun k_ => ((some k_ ≠ (.slice Ao18 t361.length co18 : Value).ownBlock ∧ (some k_ ≠ (.slice Ao22 t370.length co22 : Value).ownBlock ∧ (some k_ ≠ (.slice Ao24 t374.length co24 : Value).ownBlock ∧ k_ ≠ gb373))) ∧ k_ ≠ gb386)) (n := t383.length) (c := co29) ?_).2.2; exact (by (with_reducible repeat (first | apply Kd.N_alloc | apply Kd.N_drewN | apply Kd.N_drew)); exact (Kd.N_mono (Kd.N_far (p := ⟨gb386, 6, none⟩) (Kd.N_far (p := ⟨gb386, 5, none⟩) (Kd.N_far (p := ⟨gb386, 4, none⟩) (Kd.N_far (p := ⟨gb386, 3, none⟩) (Kd.N_far (p := ⟨gb386, 2, none⟩) (Kd.N_far (p := ⟨gb386, 1, none⟩) (Kd.N_far (p := ⟨gb386, 0, none⟩) (Kd.N_mono HO385.out (fun k_ hk => (⟨hk, hk.2⟩ : _ ∧ k_ ≠ gb386))) (fun _ hk => hk.2) (.int .i64 t377)) (fun _ hk => hk.2) (.int .i64 t378)) (fun _ hk => hk.2) (.int .i64 t379)) (fun _ hk => hk.2) (.int .i64 t380)) (fun _ hk => hk.2) (.string t381)) (fun _ hk => hk.2) (.string t382)) (fun _ hk => hk.2) (.slice Ao29 t383.length co29)) (fun _ h_ => h_.1)))); (case side2 => exact (Kd.N_reads' HO385.out).2.1); (case side3 => refine (Kd.N_reads' (e := 28) (base := w.heap.size) (ok := fun k_ => ((((some k_ ≠ (.slice Ao18 t361.length co18 : Value).ownBlock ∧ k_ ≠ gb373) ∧ some k_ ≠ (.slice Ao24 t374.length co24 : Value).ownBlock) ∧ some k_ ≠ (.slice Ao29 t383.length co29 : Value).ownBlock) ∧ k_ ≠ gb386)) (n := t370.length) (c := co22) ?_).2.2; exact (by (with_reducible repeat (first | apply Kd.N_alloc | apply Kd.N_drewN | apply Kd.N_drew)); exact (Kd.N_mono (Kd.N_far (p := ⟨gb386, 6, none⟩) (Kd.N_far (p := ⟨gb386, 5, none⟩) (Kd.N_far (p := ⟨gb386, 4, none⟩) (Kd.N_far (p := ⟨gb386, 3, none⟩) (Kd.N_far (p := ⟨gb386, 2, none⟩) (Kd.N_far (p := ⟨gb386, 1, none⟩) (Kd.N_far (p := ⟨gb386, 0, none⟩) (Kd.N_mono HO372.out (fun k_ hk => (⟨hk, hk.2⟩ : _ ∧ k_ ≠ gb386))) (fun _ hk => hk.2) (.int .i64 t377)) (fun _ hk => hk.2) (.int .i64 t378)) (fun _ hk => hk.2) (.int .i64 t379)) (fun _ hk => hk.2) (.int .i64 t380)) (fun _ hk => hk.2) (.string t381)) (fun _ hk => hk.2) (.string t382)) (fun _ hk => hk.2) (.slice Ao29 t383.length co29)) (fun _ h_ => h_.1)))); (case side4 => exact (Kd.N_reads' HO372.out).2.1); rintro e w31 ⟨rfl, hb⟩; refine ⟨_, rfl, ?_⟩; replace fQ := Aside0.mk (below_step (bn_ (below_set (below_set (below_set (below_set (below_set (below_set (below_set fQ.out (Nat.le_of_not_lt fg2.out)) (Nat.le_of_not_lt fg2.out)) (Nat.le_of_not_lt fg2.out)) (Nat.le_of_not_lt fg2.out)) (Nat.le_of_not_lt fg2.out)) (Nat.le_of_not_lt fg2.out)) (Nat.le_of_not_lt fg2.out))) hb); replace HO363 := Aside0.mk (Kd.N_below (by (with_reducible repeat (first | apply Kd.N_alloc | apply Kd.N_drewN | apply Kd.N_drew)); exact (Kd.N_mono (Kd.N_far (p := ⟨gb386, 6, none⟩) (Kd.N_far (p := ⟨gb386, 5, none⟩) (Kd.N_far (p := ⟨gb386, 4, none⟩) (Kd.N_far (p := ⟨gb386, 3, none⟩) (Kd.N_far (p := ⟨gb386, 2, none⟩) (Kd.N_far (p := ⟨gb386, 1, none⟩) (Kd.N_far (p := ⟨gb386, 0, none⟩) (Kd.N_mono HO363.out (fun k_ hk => (⟨hk, hk.2⟩ : _ ∧ k_ ≠ gb386))) (fun _ hk => hk.2) (.int .i64 t377)) (fun _ hk => hk.2) (.int .i64 t378)) (fun _ hk => hk.2) (.int .i64 t379)) (fun _ hk => hk.2) (.int .i64 t380)) (fun _ hk => hk.2) (.string t381)) (fun _ hk => hk.2) (.string t382)) (fun _ hk => hk.2) (.slice Ao29 t383.length co29)) (fun _ h_ => h_.1))) hb); replace HO372 := Aside0.mk (Kd.N_below (by (with_reducible repeat (first | apply Kd.N_alloc | apply Kd.N_drewN | apply Kd.N_drew)); exact (Kd.N_mono (Kd.N_far (p := ⟨gb386, 6, none⟩) (Kd.N_far (p := ⟨gb386, 5, none⟩) (Kd.N_far (p := ⟨gb386, 4, none⟩) (Kd.N_far (p := ⟨gb386, 3, none⟩) (Kd.N_far (p := ⟨gb386, 2, none⟩) (Kd.N_far (p := ⟨gb386, 1, none⟩) (Kd.N_far (p := ⟨gb386, 0, none⟩) (Kd.N_mono HO372.out (fun k_ hk => (⟨hk, hk.2⟩ : _ ∧ k_ ≠ gb386))) (fun _ hk => hk.2) (.int .i64 t377)) (fun _ hk => hk.2) (.int .i64 t378)) (fun _ hk => hk.2) (.int .i64 t379)) (fun _ hk => hk.2) (.int .i64 t380)) (fun _ hk => hk.2) (.string t381)) (fun _ hk => hk.2) (.string t382)) (fun _ hk => hk.2) (.slice Ao29 t383.length co29)) (fun _ h_ => h_.1))) hb); replace HO376 := Aside0.mk (Kd.N_below (by (with_reducible repeat (first | apply Kd.N_alloc | apply Kd.N_drewN | apply Kd.N_drew)); exact (Kd.N_mono (Kd.N_far (p := ⟨gb386, 6, none⟩) (Kd.N_far (p := ⟨gb386, 5, none⟩) (Kd.N_far (p := ⟨gb386, 4, none⟩) (Kd.N_far (p := ⟨gb386, 3, none⟩) (Kd.N_far (p := ⟨gb386, 2, none⟩) (Kd.N_far (p := ⟨gb386, 1, none⟩) (Kd.N_far (p := ⟨gb386, 0, none⟩) (Kd.N_mono HO376.out (fun k_ hk => (⟨hk, hk.2⟩ : _ ∧ k_ ≠ gb386))) (fun _ hk => hk.2) (.int .i64 t377)) (fun _ hk => hk.2) (.int .i64 t378)) (fun _ hk => hk.2) (.int .i64 t379)) (fun _ hk => hk.2) (.int .i64 t380)) (fun _ hk => hk.2) (.string t381)) (fun _ hk => hk.2) (.string t382)) (fun _ hk => hk.2) (.slice Ao29 t383.length co29)) (fun _ h_ => h_.1))) hb); replace HO385 := Aside0.mk (Kd.N_below (by (with_reducible repeat (first | apply Kd.N_alloc | apply Kd.N_drewN | apply Kd.N_drew)); exact (Kd.N_mono (Kd.N_far (p := ⟨gb386, 6, none⟩) (Kd.N_far (p := ⟨gb386, 5, none⟩) (Kd.N_far (p := ⟨gb386, 4, none⟩) (Kd.N_far (p := ⟨gb386, 3, none⟩) (Kd.N_far (p := ⟨gb386, 2, none⟩) (Kd.N_far (p := ⟨gb386, 1, none⟩) (Kd.N_far (p := ⟨gb386, 0, none⟩) (Kd.N_mono HO385.out (fun k_ hk => (⟨hk, hk.2⟩ : _ ∧ k_ ≠ gb386))) (fun _ hk => hk.2) (.int .i64 t377)) (fun _ hk => hk.2) (.int .i64 t378)) (fun _ hk => hk.2) (.int .i64 t379)) (fun _ hk => hk.2) (.int .i64 t380)) (fun _ hk => hk.2) (.string t381)) (fun _ hk => hk.2) (.string t382)) (fun _ hk => hk.2) (.slice Ao29 t383.length co29)) (fun _ h_ => h_.1))) hb); replace BK373 := Aside0.mk (blk_below (g := gb373) (o := .cells #[.int .i64 t364, .int .i64 t365, .int .i64 t366, .int .i64 t367, .string t368, .string t369, .slice Ao22 t370.length co22] 28 (0, 0)) (bf7_ NB373_386 (bkx_ BK373.out)) hb); replace BK386 := Aside0.mk (blk_below (g := gb386) (o := .cells #[.int .i64 t377, .int .i64 t378, .int .i64 t379, .int .i64 t380, .string t381, .string t382, .slice Ao29 t383.length co29] 28 (0, 0)) (bp7_ (bkx_ BK386.out)) hb); replace HB := bs_ hb; (try clear hb); (try clear hb2); (try clear hk); (try clear hi)) | ((with_reducible refine gate_callee (f := 8) rfl ?_); refine gsL_ (some 29) Try.func8 #[.slice A0 l0.length c0] ?_; (with_reducible refine (laws_toExpS.calls k _ _ l0 t388 _ ?side1 ?side2 A11.out).mono ?_); (case side1 => exact ck_ (Kd.C_below HR0.out HB.out)); (case side2 => exact HC0.out); rintro e w32 ⟨v389, rfl, ho0, hb⟩; refine ⟨_, rfl, ?_⟩; replace fQ := Aside0.mk (below_step (bn_ fQ.out) hb); have HO390 := Aside0.mk (Kd.N_lower (Kd.N_mono (ok' := fun k_ => some k_ ≠ (.slice Ao18 t361.length co18 : Value).ownBlock ∧ some k_ ≠ (.slice Ao22 t370.length co22 : Value).ownBlock ∧ some k_ ≠ (.slice Ao24 t374.length co24 : Value).ownBlock ∧ some k_ ≠ (.slice Ao29 t383.length co29 : Value).ownBlock ∧ k_ ≠ gb373 ∧ k_ ≠ gb386) (Kd.S_N (Kd.S_bound ho0)) (fun k_ hk_ => ⟨(Kd.fresh' (Kd.N_lt (by (with_reducible repeat (first | apply Kd.N_alloc | apply Kd.N_drewN | apply Kd.N_drew)); exact HO363.out)) k_ hk_.2.1), (Kd.fresh' (Kd.N_lt (by (with_reducible repeat (first | apply Kd.N_alloc | apply Kd.N_drewN | apply Kd.N_drew)); exact HO372.out)) k_ hk_.2.1), (Kd.fresh' (Kd.N_lt (by (with_reducible repeat (first | apply Kd.N_alloc | apply Kd.N_drewN | apply Kd.N_drew)); exact HO376.out)) k_ hk_.2.1), (Kd.fresh' (Kd.N_lt (by (with_reducible repeat (first | apply Kd.N_alloc | apply Kd.N_drewN | apply Kd.N_drew)); exact HO385.out)) k_ hk_.2.1), (Kd.freshB (g := gb373) (o := .cells #[.int .i64 t364, .int .i64 t365, .int .i64 t366, .int .i64 t367, .string t368, .string t369, .slice Ao22 t370.length co22] 28 (0, 0)) (bkx_ BK373.out) k_ hk_.2.1), (Kd.freshB (g := gb386) (o := .cells #[.int .i64 t377, .int .i64 t378, .int .i64 t379, .int .i64 t380, .string t381, .string t382, .slice Ao29 t383.length co29] 28 (0, 0)) (bkx_ BK386.out) k_ hk_.2.1)⟩)) (below_size bb_)); replace HO363 := Aside0.mk (Kd.N_elder' (by (with_reducible repeat (first | apply Kd.N_alloc | apply Kd.N_drewN | apply Kd.N_drew)); exact HO363.out) (Kd.S_base ho0) hb); replace HO372 := Aside0.mk (Kd.N_elder' (by (with_reducible repeat (first | apply Kd.N_alloc | apply Kd.N_drewN | apply Kd.N_drew)); exact HO372.out) (Kd.S_base ho0) hb); replace HO376 := Aside0.mk (Kd.N_elder' (by (with_reducible repeat (first | apply Kd.N_alloc | apply Kd.N_drewN | apply Kd.N_drew)); exact HO376.out) (Kd.S_base ho0) hb); replace HO385 := Aside0.mk (Kd.N_elder' (by (with_reducible repeat (first | apply Kd.N_alloc | apply Kd.N_drewN | apply Kd.N_drew)); exact HO385.out) (Kd.S_base ho0) hb); replace BK373 := bkb_ BK373 hb; replace BK386 := bkb_ BK386 hb; replace HB := bs_ hb; (try clear hb); (try clear hb2); (try clear hk); (try clear hi); (try clear ho0); obtain ⟨Ao33, co33, eo33⟩ := Kd.N_slice HO390.out; subst eo33) | ((with_reducible refine gate_callee (f := 11) rfl ?_); refine gsL_ (some 30) Try.func11 #[.slice Ao24 t374.length co24, .slice Ao33 t388.length co33] ?_; (with_reducible refine (laws_eqExpS.calls (laws_eqExp.f k) (laws_eqExp.calls k) k _ _ t374 _ _ t388 true _ ?side1 ?side2 ?side3 ?side4 A12.out).mono ?_); (case side1 => exact ck_ (Kd.N_reads' HO376.out).2.2); (case side2 => exact (Kd.N_reads' HO376.out).2.1); (case side3 => exact ck_ (Kd.N_reads' HO390.out).2.2); (case side4 => exact (Kd.N_reads' HO390.out).2.1); rintro e w34 ⟨rfl, hb⟩; refine ⟨_, rfl, ?_⟩; replace fQ := Aside0.mk (below_step (bn_ fQ.out) hb); replace HO363 := Aside0.mk (Kd.N_below (by (with_reducible repeat (first | apply Kd.N_alloc | apply Kd.N_drewN | apply Kd.N_drew)); exact HO363.out) hb); replace HO372 := Aside0.mk (Kd.N_below (by (with_reducible repeat (first | apply Kd.N_alloc | apply Kd.N_drewN | apply Kd.N_drew)); exact HO372.out) hb); replace HO376 := Aside0.mk (Kd.N_below (by (with_reducible repeat (first | apply Kd.N_alloc | apply Kd.N_drewN | apply Kd.N_drew)); exact HO376.out) hb); replace HO385 := Aside0.mk (Kd.N_below (by (with_reducible repeat (first | apply Kd.N_alloc | apply Kd.N_drewN | apply Kd.N_drew)); exact HO385.out) hb); replace HO390 := Aside0.mk (Kd.N_below (by (with_reducible repeat (first | apply Kd.N_alloc | apply Kd.N_drewN | apply Kd.N_drew)); exact HO390.out) hb); replace BK373 := bkb_ BK373 hb; replace BK386 := bkb_ BK386 hb; replace HB := bs_ hb; (try clear hb); (try clear hb2); (try clear hk); (try clear hi)) | ((with_reducible refine gate_callee (f := 12) rfl ?_); refine gsL_ (some 34) Try.func12 #[.slice Ao24 t374.length co24, .int .i64 1] ?_; (with_reducible refine (laws_markExpS.calls k (fun k_ => wX.heap.size ≤ k_ ∧ k_ < nN) _ t374 1 t392 m374 wX _ (below_step gXB.out (bn_ fQ.out)) (Kd.S_mono (Kd.S_bound (Kd.S_below gX1.out (bn_ fQ.out))) (fun _ h_ => ⟨h_.2.1, h_.1⟩)) A14.out).mono ?_); rintro e w999 ⟨rfl, hS2, hB2, hK2⟩; refine ⟨_, rfl, ?_⟩; have n0_ := Aside0.mk (Kd.N_kept (Kd.N_below gX0.out (bn_ fQ.out)) hK2 (fun k_ hk h_ => Nat.not_lt_of_le h_.1 hk.1)); have n1_ := Aside0.mk (Kd.S_kept (Kd.S_below gN1.out (bn_ fQ.out)) hK2 (fun k_ hk h_ => Nat.not_lt_of_le hk.1 h_.2)); have n2_ := Aside0.mk (blk_kept (g := gb373) (bkx_ BK373.out) hK2 (fun h_ => Nat.not_lt_of_le h_.1 fg.out)); have n3_ := Aside0.mk (blk_kept (g := gb386) (bkx_ BK386.out) hK2 (fun h_ => Nat.not_lt_of_le (Nat.le_trans gN0.out (Nat.le_of_not_lt fg2.out)) h_.2)); have n4_ := Aside0.mk (below_step fw.out hB2); have n5_ := Aside0.mk hB2; have gn := Aside0.mk (Nat.le_trans gN0.out (Nat.le_of_not_lt fg2.out)); have gm := fg2; clear HO363 HO372 HO376 HO385 HO390 BK373 BK386 HB gXB gX0 gX1 gN1 fQ gN0 fg2 hS2 hB2 hK2; have HO372 := n0_; have HO385 := n1_; have BK373 := n2_; have BK386 := n3_; have HB := n4_; have gXB := n5_; clear n0_ n1_ n2_ n3_ n4_ n5_))
    (try simp only [Act.put, List.setIfInBounds_toArray, List.set_cons_zero, List.set_cons_succ])
    go_cut [42] (fun v42 wc => ∃ (kq : Nat) (x42_14 : Bool) (wX : World) (nN nM : Nat), v42 = .bool x42_14 ∧ Aside0 (laws_FnExactAndAll.j0 kq l0 x42_14 t364 t365 t366 t367 t368 t369 t370 t377 t378 t379 t380 t381 t382 t383 = some r) ∧ Aside0 (kq ≤ k) ∧ Aside0 (Kd.N k28 28 wc w.heap.size (fun k_ => k_ < wX.heap.size ∧ k_ ≠ gb373) (.slice Ao22 t370.length co22) t370) ∧ Aside0 (Kd.S k28 28 wc wX.heap.size (fun k_ => nN ≤ k_ ∧ k_ < nM) (.slice Ao29 t383.length co29) t383) ∧ Aside0 (wc.heap[gb373]? = some (.cells #[.int .i64 t364, .int .i64 t365, .int .i64 t366, .int .i64 t367, .string t368, .string t369, (.slice Ao22 t370.length co22)] 28 (0, 0))) ∧ Aside0 (wc.heap[gb386]? = some (.cells #[.int .i64 t377, .int .i64 t378, .int .i64 t379, .int .i64 t380, .string t381, .string t382, (.slice Ao29 t383.length co29)] 28 (0, 0))) ∧ Aside0 (Below w.heap.size w wc) ∧ Aside0 (Below w.heap.size w wX) ∧ Aside0 (gb373 < wX.heap.size) ∧ Aside0 (wX.heap.size ≤ nN) ∧ Aside0 (nN ≤ gb386) ∧ Aside0 (¬ gb386 < nM) ∧ Aside0 (Below wX.heap.size wX wc))
    case first =>
     have H := HC15.out
     clear HC15
     by_cases c36 : t392 < 0
     ·rw [if_pos c36] at H
      exact absurd H (by simp)
     ·rw [if_neg c36] at H
      have c36b0 : decide (t392 < 0) = false := decide_eq_false c36
      clear c36
      (first | rw [c36b0] | (simp only [i64_w, i32_w]; rw [c36b0]) | skip)
      replace H := Option.bind_eq_some_iff.mp H
      obtain ⟨t393, A370, H⟩ := H
      replace H : (laws_FnExactAndAll.j0 k l0 (!t393) t364 t365 t366 t367 t368 t369 t370 t377 t378 t379 t380 t381 t382 t383) = some r := H
      have A37 := Aside0.mk A370
      clear A370
      have H' := Aside0.mk H
      clear H
      have hnb38 := NB386_373.out
      have hnc38 := NB373_386.out
      obtain ⟨hcz39_0, hcz39_1, hcz39_2, hcz39_3, hcz39_4, hcz39_5, hcz39_6, hfz39_0, hfz39_1, hfz39_2, hfz39_3, hfz39_4, hfz39_5, hfz39_6⟩ := b7_ BK386
      obtain ⟨hcz40_0, hcz40_1, hcz40_2, hcz40_3, hcz40_4, hcz40_5, hcz40_6, hfz40_0, hfz40_1, hfz40_2, hfz40_3, hfz40_4, hfz40_5, hfz40_6⟩ := b7_ BK373
      go_wp2_with (first | (go_at_call 10; (with_reducible refine (laws_eqExp.calls k t377 t378 t379 t380 t381 t382 _ _ t383 t364 t365 t366 t367 t368 t369 _ _ t370 t393 _ ?side1 ?side2 ?side3 ?side4 A37.out).mono ?_); (case side1 => exact ck_ (Kd.S_reads' HO385.out).2.2); (case side2 => exact (Kd.S_reads' HO385.out).2.1); (case side3 => exact ck_ (Kd.N_reads' HO372.out).2.2); (case side4 => exact (Kd.N_reads' HO372.out).2.1); rintro e w41 ⟨rfl, hb⟩; have n0_ := Aside0.mk (Kd.N_below (by (with_reducible repeat (first | apply Kd.N_alloc | apply Kd.N_drewN | apply Kd.N_drew)); exact HO372.out) hb); have n1_ := Aside0.mk (Kd.S_below (sk_ HO385.out) hb); have n2_ := bkb_ BK373 hb; have n3_ := bkb_ BK386 hb; have n4_ := bs_ hb; have n5_ := Aside0.mk (below_step (bn_ gXB.out) hb); clear HO372 HO385 BK373 BK386 HB gXB; have HO372 := n0_; have HO385 := n1_; have BK373 := n2_; have BK386 := n3_; have HB := n4_; have gXB := n5_; clear n0_ n1_ n2_ n3_ n4_ n5_; (try clear hb)))
      go_meet
      case rel => exact ⟨_, (!t393), wX, nN, _, rs_, H', ⟨by first | omega | exact Nat.le_refl _⟩, ⟨(by (with_reducible repeat (first | apply Kd.N_alloc | apply Kd.N_drewN | apply Kd.N_drew)); exact HO372.out)⟩, ⟨sk_ HO385.out⟩, ⟨bkx_ BK373.out⟩, ⟨bkx_ BK386.out⟩, ⟨bb_⟩, fw, fg, gle, gn, gm, ⟨bn_ gXB.out⟩⟩
    case rest =>
     clear HC15
     try clear c1
     try clear c2
     try clear p2
     try clear c3
     try clear c3b0
     try clear c4
     try clear c6
     try clear c7
     try clear c8
     try clear c9
     try clear c10
     try clear c11
     try clear c13
     try clear c27
     try clear c36
     try clear c36b0
     try clear c38
     try clear c41
     try clear hcz21_0
     try clear hcz21_1
     try clear hcz21_2
     try clear hcz21_3
     try clear hcz21_4
     try clear hcz21_5
     try clear hcz21_6
     try clear hcz28_0
     try clear hcz28_1
     try clear hcz28_2
     try clear hcz28_3
     try clear hcz28_4
     try clear hcz28_5
     try clear hcz28_6
     try clear hcz30_0
     try clear hcz30_1
     try clear hcz30_2
     try clear hcz30_3
     try clear hcz30_4
     try clear hcz30_5
     try clear hcz30_6
     try clear hcz39_0
     try clear hcz39_1
     try clear hcz39_2
     try clear hcz39_3
     try clear hcz39_4
     try clear hcz39_5
     try clear hcz39_6
     try clear hcz40_0
     try clear hcz40_1
     try clear hcz40_2
     try clear hcz40_3
     try clear hcz40_4
     try clear hcz40_5
     try clear hcz40_6
     try clear hfz21_0
     try clear hfz21_1
     try clear hfz21_2
     try clear hfz21_3
     try clear hfz21_4
     try clear hfz21_5
     try clear hfz21_6
     try clear hfz28_0
     try clear hfz28_1
     try clear hfz28_2
     try clear hfz28_3
     try clear hfz28_4
     try clear hfz28_5
     try clear hfz28_6
     try clear hfz30_0
     try clear hfz30_1
     try clear hfz30_2
     try clear hfz30_3
     try clear hfz30_4
     try clear hfz30_5
     try clear hfz30_6
     try clear hfz39_0
     try clear hfz39_1
     try clear hfz39_2
     try clear hfz39_3
     try clear hfz39_4
     try clear hfz39_5
     try clear hfz39_6
     try clear hfz40_0
     try clear hfz40_1
     try clear hfz40_2
     try clear hfz40_3
     try clear hfz40_4
     try clear hfz40_5
     try clear hfz40_6
     obtain ⟨kq, x42_14, wX, nN, nM, rfl, HA, HJ14, HO_374006, HO_387006, BK373, BK386, HB, fw, fg, gle, gn, gm, gXB⟩ := hcut
     cases kq with
     | zero => exact absurd HA.out (by simp [laws_FnExactAndAll.j0])
     | succ kj14 =>
      have H := HA.out
      clear HA
      simp only [laws_FnExactAndAll.j0] at H
      by_cases c42 : x42_14 = true
      ·subst c42
       have H1 : (none) = some r := by rw [if_pos rfl] at H; exact H
       clear H
       have H := H1
       clear H1
       exact absurd H (by simp)
      ·replace c42 := Bool.eq_false_iff.mpr c42
       subst c42
       have H1 : ((laws_markExp.f kj14 t377 t378 t379 t380 t381 t382 t383 1).bind fun bt394 => ((laws_heldExp.f kj14 t377 t378 t379 t380 t381 t382 bt394.2 1).bind fun t395 => (if t395 < 0 then (none) else (if t395 = bt394.1 then ((laws_toExpS.f kj14 l0).bind fun t396 => ((impl_AndAll.f kj14 t396).bind fun bt399 => ((laws_eqExp.f kj14 bt399.1 bt399.2.1 bt399.2.2.1 bt399.2.2.2.1 bt399.2.2.2.2.1 bt399.2.2.2.2.2.1 bt399.2.2.2.2.2.2 t364 t365 t366 t367 t368 t369 t370).bind fun t409 => (if t409 = true then ((laws_heldExp.f kj14 t377 t378 t379 t380 t381 t382 bt394.2 1).bind fun t410 => (if t410 < 0 then (none) else (if t410 = bt394.1 then (some true) else (none)))) else (none))))) else (none))))) = some r := by rw [if_neg (show ¬ (false = true) by decide)] at H; exact H
       clear H
       have H := H1
       clear H1
       replace H := Option.bind_eq_some_iff.mp H
       obtain ⟨⟨t394, m383⟩, A430, H⟩ := H
       replace H : ((laws_heldExp.f kj14 t377 t378 t379 t380 t381 t382 m383 1).bind fun t395 => (if t395 < 0 then (none) else (if t395 = t394 then ((laws_toExpS.f kj14 l0).bind fun t396 => ((impl_AndAll.f kj14 t396).bind fun bt399 => ((laws_eqExp.f kj14 bt399.1 bt399.2.1 bt399.2.2.1 bt399.2.2.2.1 bt399.2.2.2.2.1 bt399.2.2.2.2.2.1 bt399.2.2.2.2.2.2 t364 t365 t366 t367 t368 t369 t370).bind fun t409 => (if t409 = true then ((laws_heldExp.f kj14 t377 t378 t379 t380 t381 t382 m383 1).bind fun t410 => (if t410 < 0 then (none) else (if t410 = t394 then (some true) else (none)))) else (none))))) else (none)))) = some r := H
       have A43 := Aside0.mk A430
       clear A430
       replace H := Option.bind_eq_some_iff.mp H
       obtain ⟨t395, A440, H⟩ := H
       replace H : (if t395 < 0 then (none) else (if t395 = t394 then ((laws_toExpS.f kj14 l0).bind fun t396 => ((impl_AndAll.f kj14 t396).bind fun bt399 => ((laws_eqExp.f kj14 bt399.1 bt399.2.1 bt399.2.2.1 bt399.2.2.2.1 bt399.2.2.2.2.1 bt399.2.2.2.2.2.1 bt399.2.2.2.2.2.2 t364 t365 t366 t367 t368 t369 t370).bind fun t409 => (if t409 = true then ((laws_heldExp.f kj14 t377 t378 t379 t380 t381 t382 m383 1).bind fun t410 => (if t410 < 0 then (none) else (if t410 = t394 then (some true) else (none)))) else (none))))) else (none))) = some r := H
       have A44 := Aside0.mk A440
       clear A440
       by_cases c45 : t395 < 0
       ·rw [if_pos c45] at H
        exact absurd H (by simp)
       ·rw [if_neg c45] at H
        have c45b0 : decide (t395 < 0) = false := decide_eq_false c45
        clear c45
        by_cases c46 : t395 = t394
        ·rw [if_pos c46] at H
         have c46b0 : (t395 == t394) = true := beq_iff_eq.mpr c46
         have c46b1 : (t395 != t394) = false := bne_eq_false_iff_eq.mpr c46
         clear c46
         replace H := Option.bind_eq_some_iff.mp H
         obtain ⟨t396, A470, H⟩ := H
         replace H : ((impl_AndAll.f kj14 t396).bind fun bt399 => ((laws_eqExp.f kj14 bt399.1 bt399.2.1 bt399.2.2.1 bt399.2.2.2.1 bt399.2.2.2.2.1 bt399.2.2.2.2.2.1 bt399.2.2.2.2.2.2 t364 t365 t366 t367 t368 t369 t370).bind fun t409 => (if t409 = true then ((laws_heldExp.f kj14 t377 t378 t379 t380 t381 t382 m383 1).bind fun t410 => (if t410 < 0 then (none) else (if t410 = t394 then (some true) else (none)))) else (none)))) = some r := H
         have A47 := Aside0.mk A470
         clear A470
         replace H := Option.bind_eq_some_iff.mp H
         obtain ⟨⟨t399, t400, t401, t402, t403, t404, t405⟩, A480, H⟩ := H
         replace H : ((laws_eqExp.f kj14 t399 t400 t401 t402 t403 t404 t405 t364 t365 t366 t367 t368 t369 t370).bind fun t409 => (if t409 = true then ((laws_heldExp.f kj14 t377 t378 t379 t380 t381 t382 m383 1).bind fun t410 => (if t410 < 0 then (none) else (if t410 = t394 then (some true) else (none)))) else (none))) = some r := H
         have A48 := Aside0.mk A480
         clear A480
         replace H := Option.bind_eq_some_iff.mp H
         obtain ⟨t409, A490, H⟩ := H
         replace H : (if t409 = true then ((laws_heldExp.f kj14 t377 t378 t379 t380 t381 t382 m383 1).bind fun t410 => (if t410 < 0 then (none) else (if t410 = t394 then (some true) else (none)))) else (none)) = some r := H
         have A49 := Aside0.mk A490
         clear A490
         by_cases c50 : t409 = true
         ·subst c50
          have H1 : ((laws_heldExp.f kj14 t377 t378 t379 t380 t381 t382 m383 1).bind fun t410 => (if t410 < 0 then (none) else (if t410 = t394 then (some true) else (none)))) = some r := by rw [if_pos rfl] at H; exact H
          clear H
          have H := H1
          clear H1
          replace H := Option.bind_eq_some_iff.mp H
          obtain ⟨t410, A510, H⟩ := H
          replace H : (if t410 < 0 then (none) else (if t410 = t394 then (some true) else (none))) = some r := H
          have A51 := Aside0.mk A510
          clear A510
          by_cases c52 : t410 < 0
          ·rw [if_pos c52] at H
           exact absurd H (by simp)
          ·rw [if_neg c52] at H
           have c52b0 : decide (t410 < 0) = false := decide_eq_false c52
           clear c52
           by_cases c53 : t410 = t394
           ·rw [if_pos c53] at H
            have c53b0 : (t410 == t394) = true := beq_iff_eq.mpr c53
            have c53b1 : (t410 != t394) = false := bne_eq_false_iff_eq.mpr c53
            clear c53
            obtain rfl := Option.some.inj H
            have hnb54 := NB386_373.out
            have hnc54 := NB373_386.out
            obtain ⟨hcz55_0, hcz55_1, hcz55_2, hcz55_3, hcz55_4, hcz55_5, hcz55_6, hfz55_0, hfz55_1, hfz55_2, hfz55_3, hfz55_4, hfz55_5, hfz55_6⟩ := b7_ BK386
            go_wp2_with (first | ((with_reducible refine gate_callee (f := 13) rfl ?_); refine gsL_ (some 45) Try.func13 #[.agg #[.int .i64 t377, .int .i64 t378, .int .i64 t379, .int .i64 t380, .string t381, .string t382, .slice Ao29 t383.length co29], .int .i64 1] ?_; (with_reducible refine (laws_markExp.calls kj14 (fun k_ => nN ≤ k_ ∧ k_ < nM) t377 t378 t379 t380 t381 t382 _ _ _ t383 1 t394 m383 wX _ (bn_ gXB.out) (sk_ HO_387006.out) A43.out).mono ?_); rintro e w998 ⟨rfl, hS2, hB2, hK2⟩; refine ⟨_, rfl, ?_⟩; have hl_ := (Kd.S_reads' hS2).1; have n1_ := Aside0.mk (blk_kept (g := gb373) (bkx_ BK373.out) hK2 (fun h_ => Nat.not_lt_of_le (Nat.le_trans gle.out h_.1) fg.out)); have n2_ := Aside0.mk (blk_kept (g := gb386) (bkx_ BK386.out) hK2 (fun h_ => gm.out h_.2)); have n3_ := Aside0.mk (below_step fw.out hB2); have n0_ := Aside0.mk (Kd.N_kept (ok := fun k_ => k_ < wX.heap.size ∧ k_ ≠ gb373) (by (with_reducible repeat (first | apply Kd.N_alloc | apply Kd.N_drewN | apply Kd.N_drew)); exact HO_374006.out) hK2 (fun k_ hk h_ => Nat.not_lt_of_le (Nat.le_trans gle.out h_.1) hk.1)); rw [hl_] at n2_ hS2; clear HO_374006 HO_387006 BK373 BK386 HB; have hw0_ : ∀ k_, (Value.slice Ao22 t370.length co22).ownBlock = some k_ → k_ < wX.heap.size := fun k_ e_ => (n0_.out.1 k_ e_).1; have HO_374006 := Aside0.mk (show Kd.N k28 28 w998 w.heap.size (fun k_ => some k_ ≠ ((.slice Ao29 m383.length co29) : Value).ownBlock ∧ k_ ≠ gb373 ∧ k_ ≠ gb386) (.slice Ao22 t370.length co22) t370 from Kd.N_mono n0_.out (fun k_ h_ => ⟨fun e_ => Nat.not_lt_of_le (Nat.le_trans gle.out ((Kd.S_R hS2).1 k_ e_.symm).1) h_.1, h_.2, fun e_ => Nat.not_lt_of_le (Nat.le_trans gle.out gn.out) (e_ ▸ h_.1)⟩)); have HO_387006 := Aside0.mk (show Kd.N k28 28 w998 w.heap.size (fun k_ => some k_ ≠ ((.slice Ao22 t370.length co22) : Value).ownBlock ∧ k_ ≠ gb373 ∧ k_ ≠ gb386) (.slice Ao29 m383.length co29) m383 from Kd.N_lower (Kd.N_mono (Kd.S_N hS2) (fun k_ h_ => ⟨fun e_ => Nat.not_lt_of_le (Nat.le_trans gle.out h_.1) (hw0_ k_ e_.symm), fun e_ => Nat.not_lt_of_le (Nat.le_trans gle.out h_.1) (e_ ▸ fg.out), fun e_ => gm.out (e_ ▸ h_.2)⟩)) (below_size fw.out)); have BK373 := n1_; have BK386 := n2_; have HB := n3_; clear n0_ n1_ n2_ n3_ hS2 hB2 hK2 hl_ hw0_; obtain ⟨hcz57_0, hcz57_1, hcz57_2, hcz57_3, hcz57_4, hcz57_5, hcz57_6, hfz57_0, hfz57_1, hfz57_2, hfz57_3, hfz57_4, hfz57_5, hfz57_6⟩ := b7_ BK386) | ((with_reducible refine gate_callee (f := 14) rfl ?_); refine gsL_ (some 48) Try.func14 #[.agg #[.int .i64 t377, .int .i64 t378, .int .i64 t379, .int .i64 t380, .string t381, .string t382, .slice Ao29 m383.length co29], .int .i64 1] ?_; (with_reducible refine (laws_heldExp.calls kj14 t377 t378 t379 t380 t381 t382 _ _ m383 1 t395 _ ?side1 ?side2 A44.out).mono ?_); (case side1 => exact ck_ (Kd.N_reads' HO_387006.out).2.2); (case side2 => exact (Kd.N_reads' HO_387006.out).2.1); rintro e w58 ⟨rfl, hb⟩; refine ⟨_, rfl, ?_⟩; replace HO_374006 := Aside0.mk (Kd.N_below (by (with_reducible repeat (first | apply Kd.N_alloc | apply Kd.N_drewN | apply Kd.N_drew)); exact HO_374006.out) hb); replace HO_387006 := Aside0.mk (Kd.N_below (by (with_reducible repeat (first | apply Kd.N_alloc | apply Kd.N_drewN | apply Kd.N_drew)); exact HO_387006.out) hb); replace BK373 := bkb_ BK373 hb; replace BK386 := bkb_ BK386 hb; replace HB := bs_ hb; (try clear hb); (try clear hb2); (try clear hk); (try clear hi)) | ((with_reducible refine gate_callee (f := 8) rfl ?_); refine gsL_ (some 55) Try.func8 #[.slice A0 l0.length c0] ?_; (with_reducible refine (laws_toExpS.calls kj14 _ _ l0 t396 _ ?side1 ?side2 A47.out).mono ?_); (case side1 => exact ck_ (Kd.C_below HR0.out HB.out)); (case side2 => exact HC0.out); rintro e w59 ⟨v397, rfl, ho0, hb⟩; refine ⟨_, rfl, ?_⟩; have HO398 := Aside0.mk (Kd.N_lower (Kd.N_mono (ok' := fun k_ => some k_ ≠ (.slice Ao22 t370.length co22 : Value).ownBlock ∧ some k_ ≠ (.slice Ao29 m383.length co29 : Value).ownBlock ∧ k_ ≠ gb373 ∧ k_ ≠ gb386) (Kd.S_N (Kd.S_bound ho0)) (fun k_ hk_ => ⟨(Kd.fresh' (Kd.N_lt (by (with_reducible repeat (first | apply Kd.N_alloc | apply Kd.N_drewN | apply Kd.N_drew)); exact HO_374006.out)) k_ hk_.2.1), (Kd.fresh' (Kd.N_lt (by (with_reducible repeat (first | apply Kd.N_alloc | apply Kd.N_drewN | apply Kd.N_drew)); exact HO_387006.out)) k_ hk_.2.1), (Kd.freshB (g := gb373) (o := .cells #[.int .i64 t364, .int .i64 t365, .int .i64 t366, .int .i64 t367, .string t368, .string t369, .slice Ao22 t370.length co22] 28 (0, 0)) (bkx_ BK373.out) k_ hk_.2.1), (Kd.freshB (g := gb386) (o := .cells #[.int .i64 t377, .int .i64 t378, .int .i64 t379, .int .i64 t380, .string t381, .string t382, .slice Ao29 m383.length co29] 28 (0, 0)) (bkx_ BK386.out) k_ hk_.2.1)⟩)) (below_size bb_)); replace HO_374006 := Aside0.mk (Kd.N_elder' (by (with_reducible repeat (first | apply Kd.N_alloc | apply Kd.N_drewN | apply Kd.N_drew)); exact HO_374006.out) (Kd.S_base ho0) hb); replace HO_387006 := Aside0.mk (Kd.N_elder' (by (with_reducible repeat (first | apply Kd.N_alloc | apply Kd.N_drewN | apply Kd.N_drew)); exact HO_387006.out) (Kd.S_base ho0) hb); replace BK373 := bkb_ BK373 hb; replace BK386 := bkb_ BK386 hb; replace HB := bs_ hb; (try clear hb); (try clear hb2); (try clear hk); (try clear hi); (try clear ho0); obtain ⟨Ao60, co60, eo60⟩ := Kd.N_slice HO398.out; subst eo60) | ((with_reducible refine gate_callee (f := 9) rfl ?_); refine gsL_ (some 56) Try.func9 #[.slice Ao60 t396.length co60] ?_; (with_reducible refine (impl_AndAll.calls kj14 _ _ t396 t399 t400 t401 t402 t403 t404 t405 _ ?side1 ?side2 A48.out).mono ?_); (case side1 => exact ck_ (Kd.N_reads' HO398.out).2.2); (case side2 => exact (Kd.N_reads' HO398.out).2.1); rintro e w61 ⟨v406, rfl, ho0, hb⟩; refine ⟨_, rfl, ?_⟩; have ho1 := Kd.S_N ho0; have HO407 := Aside0.mk (Kd.N_lower (Kd.N_mono (ok' := fun k_ => some k_ ≠ (.slice Ao22 t370.length co22 : Value).ownBlock ∧ some k_ ≠ (.slice Ao29 m383.length co29 : Value).ownBlock ∧ some k_ ≠ (.slice Ao60 t396.length co60 : Value).ownBlock ∧ k_ ≠ gb373 ∧ k_ ≠ gb386) ho1 (fun k_ hk_ => ⟨(Kd.fresh' (Kd.N_lt (by (with_reducible repeat (first | apply Kd.N_alloc | apply Kd.N_drewN | apply Kd.N_drew)); exact HO_374006.out)) k_ hk_), (Kd.fresh' (Kd.N_lt (by (with_reducible repeat (first | apply Kd.N_alloc | apply Kd.N_drewN | apply Kd.N_drew)); exact HO_387006.out)) k_ hk_), (Kd.fresh' (Kd.N_lt (by (with_reducible repeat (first | apply Kd.N_alloc | apply Kd.N_drewN | apply Kd.N_drew)); exact HO398.out)) k_ hk_), (Kd.freshB (g := gb373) (o := .cells #[.int .i64 t364, .int .i64 t365, .int .i64 t366, .int .i64 t367, .string t368, .string t369, .slice Ao22 t370.length co22] 28 (0, 0)) (bkx_ BK373.out) k_ hk_), (Kd.freshB (g := gb386) (o := .cells #[.int .i64 t377, .int .i64 t378, .int .i64 t379, .int .i64 t380, .string t381, .string t382, .slice Ao29 m383.length co29] 28 (0, 0)) (bkx_ BK386.out) k_ hk_)⟩)) (below_size bb_)); replace HO_374006 := Aside0.mk (Kd.N_elder' (by (with_reducible repeat (first | apply Kd.N_alloc | apply Kd.N_drewN | apply Kd.N_drew)); exact HO_374006.out) (Kd.N_base ho1) hb); replace HO_387006 := Aside0.mk (Kd.N_elder' (by (with_reducible repeat (first | apply Kd.N_alloc | apply Kd.N_drewN | apply Kd.N_drew)); exact HO_387006.out) (Kd.N_base ho1) hb); replace HO398 := Aside0.mk (Kd.N_elder' (by (with_reducible repeat (first | apply Kd.N_alloc | apply Kd.N_drewN | apply Kd.N_drew)); exact HO398.out) (Kd.N_base ho1) hb); replace BK373 := bkb_ BK373 hb; replace BK386 := bkb_ BK386 hb; replace HB := bs_ hb; (try clear hb); (try clear hb2); (try clear hk); (try clear hi); (try clear ho1); (try clear ho0)) | ((with_reducible refine gate_dst (N := 10) rfl ?_); refine bx_ 10 #[.int .i64 0, .int .i64 0, .int .i64 0, .int .i64 0, .string (⟨#[]⟩ : ByteArray), .string (⟨#[]⟩ : ByteArray), .slice none 0 0] 28 ?_; intro gb408 hg w62 hbox hb; have BK408 := Aside0.mk (hbox); have GW408 := gw_ hg; have GE408 := gw_ hg; have NB373_408 := nl_ hg BK373; have NB408_373 := ng_ hg BK373; have NB386_408 := nl_ hg BK386; have NB408_386 := ng_ hg BK386; replace HO_374006 := Aside0.mk (Kd.N_below (Kd.N_elderB (by (with_reducible repeat (first | apply Kd.N_alloc | apply Kd.N_drewN | apply Kd.N_drew)); exact HO_374006.out) gb408 (Nat.le_of_eq hg.symm)) hb); replace HO_387006 := Aside0.mk (Kd.N_below (Kd.N_elderB (by (with_reducible repeat (first | apply Kd.N_alloc | apply Kd.N_drewN | apply Kd.N_drew)); exact HO_387006.out) gb408 (Nat.le_of_eq hg.symm)) hb); replace HO398 := Aside0.mk (Kd.N_below (Kd.N_elderB (by (with_reducible repeat (first | apply Kd.N_alloc | apply Kd.N_drewN | apply Kd.N_drew)); exact HO398.out) gb408 (Nat.le_of_eq hg.symm)) hb); replace HO407 := Aside0.mk (Kd.N_below (Kd.N_elderB (by (with_reducible repeat (first | apply Kd.N_alloc | apply Kd.N_drewN | apply Kd.N_drew)); exact HO407.out) gb408 (Nat.le_of_eq hg.symm)) hb); replace BK373 := bkb_ BK373 hb; replace BK386 := bkb_ BK386 hb; replace HB := bs_ hb; clear hb hbox hg; have hnb63 := NB408_373.out; have hnc63 := NB373_408.out; have hnb64 := NB408_386.out; have hnc64 := NB386_408.out; obtain ⟨hcz65_0, hcz65_1, hcz65_2, hcz65_3, hcz65_4, hcz65_5, hcz65_6, hfz65_0, hfz65_1, hfz65_2, hfz65_3, hfz65_4, hfz65_5, hfz65_6⟩ := b7_ BK408; obtain ⟨Ao66, co66, eo66⟩ := Kd.N_slice HO407.out; subst eo66; obtain ⟨hcz67_0, hcz67_1, hcz67_2, hcz67_3, hcz67_4, hcz67_5, hcz67_6, hfz67_0, hfz67_1, hfz67_2, hfz67_3, hfz67_4, hfz67_5, hfz67_6⟩ := b7_ BK373) | ((with_reducible refine gate_callee (f := 10) rfl ?_); refine gsL_ (some 59) Try.func10 #[.agg #[.int .i64 t399, .int .i64 t400, .int .i64 t401, .int .i64 t402, .string t403, .string t404, .slice Ao66 t405.length co66], .agg #[.int .i64 t364, .int .i64 t365, .int .i64 t366, .int .i64 t367, .string t368, .string t369, .slice Ao22 t370.length co22]] ?_; (with_reducible refine (laws_eqExp.calls kj14 t399 t400 t401 t402 t403 t404 _ _ t405 t364 t365 t366 t367 t368 t369 _ _ t370 true _ ?side1 ?side2 ?side3 ?side4 A49.out).mono ?_); (case side1 => refine (Kd.N_reads' (e := 28) (base := w.heap.size) (ok := fun k_ => ((some k_ ≠ (.slice Ao22 t370.length co22 : Value).ownBlock ∧ (some k_ ≠ (.slice Ao29 m383.length co29 : Value).ownBlock ∧ (some k_ ≠ (.slice Ao60 t396.length co60 : Value).ownBlock ∧ (k_ ≠ gb373 ∧ k_ ≠ gb386)))) ∧ k_ ≠ gb408)) (n := t405.length) (c := co66) ?_).2.2; exact (by (with_reducible repeat (first | apply Kd.N_alloc | apply Kd.N_drewN | apply Kd.N_drew)); exact (Kd.N_mono (Kd.N_far (p := ⟨gb408, 6, none⟩) (Kd.N_far (p := ⟨gb408, 5, none⟩) (Kd.N_far (p := ⟨gb408, 4, none⟩) (Kd.N_far (p := ⟨gb408, 3, none⟩) (Kd.N_far (p := ⟨gb408, 2, none⟩) (Kd.N_far (p := ⟨gb408, 1, none⟩) (Kd.N_far (p := ⟨gb408, 0, none⟩) (Kd.N_mono HO407.out (fun k_ hk => (⟨hk, hk.2⟩ : _ ∧ k_ ≠ gb408))) (fun _ hk => hk.2) (.int .i64 t399)) (fun _ hk => hk.2) (.int .i64 t400)) (fun _ hk => hk.2) (.int .i64 t401)) (fun _ hk => hk.2) (.int .i64 t402)) (fun _ hk => hk.2) (.string t403)) (fun _ hk => hk.2) (.string t404)) (fun _ hk => hk.2) (.slice Ao66 t405.length co66)) (fun _ h_ => h_.1)))); (case side2 => exact (Kd.N_reads' HO407.out).2.1); (case side3 => refine (Kd.N_reads' (e := 28) (base := w.heap.size) (ok := fun k_ => ((((some k_ ≠ (.slice Ao29 m383.length co29 : Value).ownBlock ∧ (k_ ≠ gb373 ∧ k_ ≠ gb386)) ∧ some k_ ≠ (.slice Ao60 t396.length co60 : Value).ownBlock) ∧ some k_ ≠ (.slice Ao66 t405.length co66 : Value).ownBlock) ∧ k_ ≠ gb408)) (n := t370.length) (c := co22) ?_).2.2; exact (by (with_reducible repeat (first | apply Kd.N_alloc | apply Kd.N_drewN | apply Kd.N_drew)); exact (Kd.N_mono (Kd.N_far (p := ⟨gb408, 6, none⟩) (Kd.N_far (p := ⟨gb408, 5, none⟩) (Kd.N_far (p := ⟨gb408, 4, none⟩) (Kd.N_far (p := ⟨gb408, 3, none⟩) (Kd.N_far (p := ⟨gb408, 2, none⟩) (Kd.N_far (p := ⟨gb408, 1, none⟩) (Kd.N_far (p := ⟨gb408, 0, none⟩) (Kd.N_mono HO_374006.out (fun k_ hk => (⟨hk, hk.2⟩ : _ ∧ k_ ≠ gb408))) (fun _ hk => hk.2) (.int .i64 t399)) (fun _ hk => hk.2) (.int .i64 t400)) (fun _ hk => hk.2) (.int .i64 t401)) (fun _ hk => hk.2) (.int .i64 t402)) (fun _ hk => hk.2) (.string t403)) (fun _ hk => hk.2) (.string t404)) (fun _ hk => hk.2) (.slice Ao66 t405.length co66)) (fun _ h_ => h_.1)))); (case side4 => exact (Kd.N_reads' HO_374006.out).2.1); rintro e w68 ⟨rfl, hb⟩; refine ⟨_, rfl, ?_⟩; replace HO_374006 := Aside0.mk (Kd.N_below (by (with_reducible repeat (first | apply Kd.N_alloc | apply Kd.N_drewN | apply Kd.N_drew)); exact (Kd.N_mono (Kd.N_far (p := ⟨gb408, 6, none⟩) (Kd.N_far (p := ⟨gb408, 5, none⟩) (Kd.N_far (p := ⟨gb408, 4, none⟩) (Kd.N_far (p := ⟨gb408, 3, none⟩) (Kd.N_far (p := ⟨gb408, 2, none⟩) (Kd.N_far (p := ⟨gb408, 1, none⟩) (Kd.N_far (p := ⟨gb408, 0, none⟩) (Kd.N_mono HO_374006.out (fun k_ hk => (⟨hk, hk.2⟩ : _ ∧ k_ ≠ gb408))) (fun _ hk => hk.2) (.int .i64 t399)) (fun _ hk => hk.2) (.int .i64 t400)) (fun _ hk => hk.2) (.int .i64 t401)) (fun _ hk => hk.2) (.int .i64 t402)) (fun _ hk => hk.2) (.string t403)) (fun _ hk => hk.2) (.string t404)) (fun _ hk => hk.2) (.slice Ao66 t405.length co66)) (fun _ h_ => h_.1))) hb); replace HO_387006 := Aside0.mk (Kd.N_below (by (with_reducible repeat (first | apply Kd.N_alloc | apply Kd.N_drewN | apply Kd.N_drew)); exact (Kd.N_mono (Kd.N_far (p := ⟨gb408, 6, none⟩) (Kd.N_far (p := ⟨gb408, 5, none⟩) (Kd.N_far (p := ⟨gb408, 4, none⟩) (Kd.N_far (p := ⟨gb408, 3, none⟩) (Kd.N_far (p := ⟨gb408, 2, none⟩) (Kd.N_far (p := ⟨gb408, 1, none⟩) (Kd.N_far (p := ⟨gb408, 0, none⟩) (Kd.N_mono HO_387006.out (fun k_ hk => (⟨hk, hk.2⟩ : _ ∧ k_ ≠ gb408))) (fun _ hk => hk.2) (.int .i64 t399)) (fun _ hk => hk.2) (.int .i64 t400)) (fun _ hk => hk.2) (.int .i64 t401)) (fun _ hk => hk.2) (.int .i64 t402)) (fun _ hk => hk.2) (.string t403)) (fun _ hk => hk.2) (.string t404)) (fun _ hk => hk.2) (.slice Ao66 t405.length co66)) (fun _ h_ => h_.1))) hb); replace HO398 := Aside0.mk (Kd.N_below (by (with_reducible repeat (first | apply Kd.N_alloc | apply Kd.N_drewN | apply Kd.N_drew)); exact (Kd.N_mono (Kd.N_far (p := ⟨gb408, 6, none⟩) (Kd.N_far (p := ⟨gb408, 5, none⟩) (Kd.N_far (p := ⟨gb408, 4, none⟩) (Kd.N_far (p := ⟨gb408, 3, none⟩) (Kd.N_far (p := ⟨gb408, 2, none⟩) (Kd.N_far (p := ⟨gb408, 1, none⟩) (Kd.N_far (p := ⟨gb408, 0, none⟩) (Kd.N_mono HO398.out (fun k_ hk => (⟨hk, hk.2⟩ : _ ∧ k_ ≠ gb408))) (fun _ hk => hk.2) (.int .i64 t399)) (fun _ hk => hk.2) (.int .i64 t400)) (fun _ hk => hk.2) (.int .i64 t401)) (fun _ hk => hk.2) (.int .i64 t402)) (fun _ hk => hk.2) (.string t403)) (fun _ hk => hk.2) (.string t404)) (fun _ hk => hk.2) (.slice Ao66 t405.length co66)) (fun _ h_ => h_.1))) hb); replace HO407 := Aside0.mk (Kd.N_below (by (with_reducible repeat (first | apply Kd.N_alloc | apply Kd.N_drewN | apply Kd.N_drew)); exact (Kd.N_mono (Kd.N_far (p := ⟨gb408, 6, none⟩) (Kd.N_far (p := ⟨gb408, 5, none⟩) (Kd.N_far (p := ⟨gb408, 4, none⟩) (Kd.N_far (p := ⟨gb408, 3, none⟩) (Kd.N_far (p := ⟨gb408, 2, none⟩) (Kd.N_far (p := ⟨gb408, 1, none⟩) (Kd.N_far (p := ⟨gb408, 0, none⟩) (Kd.N_mono HO407.out (fun k_ hk => (⟨hk, hk.2⟩ : _ ∧ k_ ≠ gb408))) (fun _ hk => hk.2) (.int .i64 t399)) (fun _ hk => hk.2) (.int .i64 t400)) (fun _ hk => hk.2) (.int .i64 t401)) (fun _ hk => hk.2) (.int .i64 t402)) (fun _ hk => hk.2) (.string t403)) (fun _ hk => hk.2) (.string t404)) (fun _ hk => hk.2) (.slice Ao66 t405.length co66)) (fun _ h_ => h_.1))) hb); replace BK373 := Aside0.mk (blk_below (g := gb373) (o := .cells #[.int .i64 t364, .int .i64 t365, .int .i64 t366, .int .i64 t367, .string t368, .string t369, .slice Ao22 t370.length co22] 28 (0, 0)) (bf7_ NB373_408 (bkx_ BK373.out)) hb); replace BK386 := Aside0.mk (blk_below (g := gb386) (o := .cells #[.int .i64 t377, .int .i64 t378, .int .i64 t379, .int .i64 t380, .string t381, .string t382, .slice Ao29 m383.length co29] 28 (0, 0)) (bf7_ NB386_408 (bkx_ BK386.out)) hb); replace BK408 := Aside0.mk (blk_below (g := gb408) (o := .cells #[.int .i64 t399, .int .i64 t400, .int .i64 t401, .int .i64 t402, .string t403, .string t404, .slice Ao66 t405.length co66] 28 (0, 0)) (bp7_ (bkx_ BK408.out)) hb); replace HB := bs_ hb; (try clear hb); (try clear hb2); (try clear hk); (try clear hi); obtain ⟨hcz69_0, hcz69_1, hcz69_2, hcz69_3, hcz69_4, hcz69_5, hcz69_6, hfz69_0, hfz69_1, hfz69_2, hfz69_3, hfz69_4, hfz69_5, hfz69_6⟩ := b7_ BK386) | ((with_reducible refine gate_callee (f := 14) rfl ?_); refine gsL_ (some 63) Try.func14 #[.agg #[.int .i64 t377, .int .i64 t378, .int .i64 t379, .int .i64 t380, .string t381, .string t382, .slice Ao29 m383.length co29], .int .i64 1] ?_; (with_reducible refine (laws_heldExp.calls kj14 t377 t378 t379 t380 t381 t382 _ _ m383 1 t410 _ ?side1 ?side2 A51.out).mono ?_); (case side1 => exact ck_ (Kd.N_reads' HO_387006.out).2.2); (case side2 => exact (Kd.N_reads' HO_387006.out).2.1); rintro e w70 ⟨rfl, hb⟩; refine ⟨_, rfl, ?_⟩; replace HO_374006 := Aside0.mk (Kd.N_below (by (with_reducible repeat (first | apply Kd.N_alloc | apply Kd.N_drewN | apply Kd.N_drew)); exact HO_374006.out) hb); replace HO_387006 := Aside0.mk (Kd.N_below (by (with_reducible repeat (first | apply Kd.N_alloc | apply Kd.N_drewN | apply Kd.N_drew)); exact HO_387006.out) hb); replace HO398 := Aside0.mk (Kd.N_below (by (with_reducible repeat (first | apply Kd.N_alloc | apply Kd.N_drewN | apply Kd.N_drew)); exact HO398.out) hb); replace HO407 := Aside0.mk (Kd.N_below (by (with_reducible repeat (first | apply Kd.N_alloc | apply Kd.N_drewN | apply Kd.N_drew)); exact HO407.out) hb); replace BK373 := bkb_ BK373 hb; replace BK386 := bkb_ BK386 hb; replace BK408 := bkb_ BK408 hb; replace HB := bs_ hb; (try clear hb); (try clear hb2); (try clear hk); (try clear hi)))
            go_ret
            exact ⟨er_, bb_⟩
           ·rw [if_neg c53] at H
            exact absurd H (by simp)
         ·replace c50 := Bool.eq_false_iff.mpr c50
          subst c50
          have H1 : (none) = some r := by rw [if_neg (show ¬ (false = true) by decide)] at H; exact H
          clear H
          have H := H1
          clear H1
          exact absurd H (by simp)
        ·rw [if_neg c46] at H
         exact absurd H (by simp)
   ·replace c13 := Bool.eq_false_iff.mpr c13
    subst c13
    have H1 : (none) = some r := by rw [if_neg (show ¬ (false = true) by decide)] at H; exact H
    clear H
    have H := H1
    clear H1
    exact absurd H (by simp)
  ·replace c10 := Bool.eq_false_iff.mpr c10
   subst c10
   have H1 : (none) = some r := by rw [if_neg (show ¬ (false = true) by decide)] at H; exact H
   clear H
   have H := H1
   clear H1
   exact absurd H (by simp)

end Go.Proofs.Ytapgfamppnhnmaa.PFnExactAndAll
