-- WRITTEN BY xprint.py, a program of this session over the kit's printer: by nobody's hand
-- PRESSED TWICE
import Derived.Test.YthgdmdabdlgliaaPress
import Derived.Test.YthgdmdabdlgliaaPFnReckonx0
import Derived.Test.YthgdmdabdlgliaaPFnReckonx2
import Derived.Test.YthgdmdabdlgliaaPFnReckonx7
namespace Go.Proofs.Ythgdmdabdlgliaa.PFnReckon
open Go.RowKit Go.Proofs.YthgdmdabdlgliaaW.PrintWords Go.Proofs.YthgdmdabdlgliaaW.PrintLast Go.Proofs.YthgdmdabdlgliaaW.PrintMore
set_option linter.unusedVariables false
set_option linter.unusedSimpArgs false

/-! ### spec_l01Product: function 103 -/
def spec_l01Product.j0 : Nat → Int → Int → Bool → Option (Int × Int × ByteArray)
 | 0, _, _, _ => none
 | k + 1, x0, x1, x12 => if x12 = true then ((spec_l01Int.f 0).bind fun bt323 => (some (bt323.1, bt323.2.1, bt323.2.2))) else (if x0 = (-1) then (if x1 = (-9223372036854775808) then (some (0, 0, (⟨#[]⟩ : ByteArray))) else (if x1 = (-1) then (if x0 = (-9223372036854775808) then (some (0, 0, (⟨#[]⟩ : ByteArray))) else (if x1 = 0 then (none) else (if (wrap64 (Int.tdiv (wrap64 (x0 * x1)) x1)) = x0 then ((spec_l01Int.f (wrap64 (x0 * x1))).bind fun bt326 => (some (bt326.1, bt326.2.1, bt326.2.2))) else (some (0, 0, (⟨#[]⟩ : ByteArray)))))) else (if x1 = 0 then (none) else (if (wrap64 (Int.tdiv (wrap64 (x0 * x1)) x1)) = x0 then ((spec_l01Int.f (wrap64 (x0 * x1))).bind fun bt329 => (some (bt329.1, bt329.2.1, bt329.2.2))) else (some (0, 0, (⟨#[]⟩ : ByteArray))))))) else (if x1 = (-1) then (if x0 = (-9223372036854775808) then (some (0, 0, (⟨#[]⟩ : ByteArray))) else (if x1 = 0 then (none) else (if (wrap64 (Int.tdiv (wrap64 (x0 * x1)) x1)) = x0 then ((spec_l01Int.f (wrap64 (x0 * x1))).bind fun bt332 => (some (bt332.1, bt332.2.1, bt332.2.2))) else (some (0, 0, (⟨#[]⟩ : ByteArray)))))) else (if x1 = 0 then (none) else (if (wrap64 (Int.tdiv (wrap64 (x0 * x1)) x1)) = x0 then ((spec_l01Int.f (wrap64 (x0 * x1))).bind fun bt335 => (some (bt335.1, bt335.2.1, bt335.2.2))) else (some (0, 0, (⟨#[]⟩ : ByteArray)))))))
def spec_l01Product.f (k : Nat) (a0 : Int) (a1 : Int) : Option (Int × Int × ByteArray) := if a0 = 0 then (spec_l01Product.j0 k a0 a1 true) else (spec_l01Product.j0 k a0 a1 (a1 == 0))
set_option maxHeartbeats 8000000 in
set_option maxRecDepth 100000 in
theorem spec_l01Product.calls (k : Nat) (a0 : Int) (a1 : Int) (r1 : Int) (r2 : Int) (r3 : ByteArray) (w : World) (h : spec_l01Product.f k a0 a1 = some (r1, r2, r3)) :
  Calls Try.prog 103 #[.int .i64 a0, .int .i64 a1] w fun e w' => e = .returned (.agg #[.int .i64 r1, .int .i64 r2, .string r3]) ∧ Below w.heap.size w w' := by
 have hu25 := Try.underlying25
 have HB := Aside0.mk (Below.refl w.heap.size w)
 have H : (if a0 = 0 then (spec_l01Product.j0 k a0 a1 true) else (spec_l01Product.j0 k a0 a1 (a1 == 0))) = some (r1, r2, r3) := h
 clear h
 have HC3 := Aside0.mk H
 clear H
 go_enter Try.func103, Try.ntmps103
 go_upto_region 1 with (first | ((with_reducible refine gate_dst (N := 4) rfl ?_); refine bx_ 4 #[.int .i64 0, .int .i64 0, .string (⟨#[]⟩ : ByteArray)] 25 ?_; intro gb322 hg w4 hbox hb; have BK322 := Aside0.mk (hbox); have GW322 := gw_ hg; have GE322 := gw_ hg; replace HB := bs_ hb; clear hb hbox hg))
 (try simp only [Act.put, List.setIfInBounds_toArray, List.set_cons_zero, List.set_cons_succ])
 go_cut [12] (fun v12 wc => ∃ (kq : Nat) (x12_2 : Bool), v12 = .bool x12_2 ∧ Aside0 (spec_l01Product.j0 kq a0 a1 x12_2 = some (r1, r2, r3)) ∧ Aside0 (kq ≤ k) ∧ Aside0 (wc.heap[gb322]? = some (.cells #[.int .i64 0, .int .i64 0, .string (⟨#[]⟩ : ByteArray)] 25 (0, 0))) ∧ Aside0 (Below w.heap.size w wc))
 case first =>
  have H := HC3.out; clear HC3
  by_cases c5 : a0 = 0
  ·rw [if_pos c5] at H
   have c5b0 : (a0 == 0) = true := beq_iff_eq.mpr c5; have c5b1 : (a0 != 0) = false := bne_eq_false_iff_eq.mpr c5; clear c5; (first | rw [c5b0] | (simp only [i64_w, i32_w]; rw [c5b0]) | skip); have H' := Aside0.mk H; clear H
   go_wp2
   go_meet
   case rel => exact ⟨_, (true), rs_, H', ⟨by first | omega | exact Nat.le_refl _⟩, ⟨bkx_ BK322.out⟩, ⟨bb_⟩⟩
  ·rw [if_neg c5] at H
   have c5b0 : (a0 == 0) = false := beq_eq_false_iff_ne.mpr c5; have c5b1 : (a0 != 0) = true := bne_iff_ne.mpr c5; (first | rw [c5b0] | (simp only [i64_w, i32_w]; rw [c5b0]) | skip); have H' := Aside0.mk H; clear H
   go_wp2
   go_meet
   case rel => exact ⟨_, ((a1 == 0)), rs_, H', ⟨by first | omega | exact Nat.le_refl _⟩, ⟨bkx_ BK322.out⟩, ⟨bb_⟩⟩
 case rest =>
  clear HC3; (try clear c1); (try clear p2); (try clear c5); (try clear c5b0); (try clear c5b1); obtain ⟨kq, x12_2, rfl, HA, HJ2, BK322, HB⟩ := hcut
  cases kq with
  | zero => exact absurd HA.out (by simp [spec_l01Product.j0])
  | succ kj2 =>
   have H := HA.out; clear HA; simp only [spec_l01Product.j0] at H
   by_cases c6 : x12_2 = true
   ·subst c6
    (have H1 : ((spec_l01Int.f 0).bind fun bt323 => (some (bt323.1, bt323.2.1, bt323.2.2))) = some (r1, r2, r3) := by rw [if_pos rfl] at H; exact H); clear H; have H := H1; clear H1; replace H := Option.bind_eq_some_iff.mp H; obtain ⟨⟨t323, t324, t325⟩, A70, H⟩ := H; replace H : (some (t323, t324, t325)) = some (r1, r2, r3) := H; have A7 := Aside0.mk A70; clear A70; simp only [Option.some.injEq, Prod.mk.injEq] at H; obtain ⟨rfl, rfl, rfl⟩ := H
    go_wp2_with (first | ((with_reducible refine gate_callee (f := 101) rfl ?_); refine gsL_ (some 13) Try.func101 #[.int .i64 0] ?_; (with_reducible refine (spec_l01Int.calls 0 t323 t324 t325 _ A7.out).mono ?_); rintro e w8 ⟨rfl, hb⟩; refine ⟨_, rfl, ?_⟩; replace BK322 := bkb_ BK322 hb; replace HB := bs_ hb; (try clear hb); obtain ⟨hcz9_0, hcz9_1, hcz9_2, hfz9_0, hfz9_1, hfz9_2⟩ := b3_ BK322))
    refine bodyPost_ret (results_cell_row rfl _ _ gb322 25 #[.int .i64 t323, .int .i64 t324, .string t325] (0, 0) _ rfl (bp3_ (bkx_ BK322.out)) Try.underlying25 rfl (by kernel_rfl)) rfl ?_; exact ⟨er_, bb_⟩
   ·replace c6 := Bool.eq_false_iff.mpr c6
    subst c6; (have H1 : (if a0 = (-1) then (if a1 = (-9223372036854775808) then (some (0, 0, (⟨#[]⟩ : ByteArray))) else (if a1 = (-1) then (if a0 = (-9223372036854775808) then (some (0, 0, (⟨#[]⟩ : ByteArray))) else (if a1 = 0 then (none) else (if (wrap64 (Int.tdiv (wrap64 (a0 * a1)) a1)) = a0 then ((spec_l01Int.f (wrap64 (a0 * a1))).bind fun bt326 => (some (bt326.1, bt326.2.1, bt326.2.2))) else (some (0, 0, (⟨#[]⟩ : ByteArray)))))) else (if a1 = 0 then (none) else (if (wrap64 (Int.tdiv (wrap64 (a0 * a1)) a1)) = a0 then ((spec_l01Int.f (wrap64 (a0 * a1))).bind fun bt329 => (some (bt329.1, bt329.2.1, bt329.2.2))) else (some (0, 0, (⟨#[]⟩ : ByteArray))))))) else (if a1 = (-1) then (if a0 = (-9223372036854775808) then (some (0, 0, (⟨#[]⟩ : ByteArray))) else (if a1 = 0 then (none) else (if (wrap64 (Int.tdiv (wrap64 (a0 * a1)) a1)) = a0 then ((spec_l01Int.f (wrap64 (a0 * a1))).bind fun bt332 => (some (bt332.1, bt332.2.1, bt332.2.2))) else (some (0, 0, (⟨#[]⟩ : ByteArray)))))) else (if a1 = 0 then (none) else (if (wrap64 (Int.tdiv (wrap64 (a0 * a1)) a1)) = a0 then ((spec_l01Int.f (wrap64 (a0 * a1))).bind fun bt335 => (some (bt335.1, bt335.2.1, bt335.2.2))) else (some (0, 0, (⟨#[]⟩ : ByteArray))))))) = some (r1, r2, r3) := by rw [if_neg (show ¬ (false = true) by decide)] at H; exact H); clear H; have H := H1; clear H1
    by_cases c10 : a0 = (-1)
    ·rw [if_pos c10] at H
     have c10b0 : (a0 == (-1)) = true := beq_iff_eq.mpr c10; have c10b1 : (a0 != (-1)) = false := bne_eq_false_iff_eq.mpr c10; clear c10
     by_cases c11 : a1 = (-9223372036854775808)
     ·rw [if_pos c11] at H
      have c11b0 : (a1 == (-9223372036854775808)) = true := beq_iff_eq.mpr c11; have c11b1 : (a1 != (-9223372036854775808)) = false := bne_eq_false_iff_eq.mpr c11; clear c11; simp only [Option.some.injEq, Prod.mk.injEq] at H; obtain ⟨rfl, rfl, rfl⟩ := H; obtain ⟨hcz12_0, hcz12_1, hcz12_2, hfz12_0, hfz12_1, hfz12_2⟩ := b3_ BK322
      go_wp2
      refine bodyPost_ret (results_cell_row rfl _ _ gb322 25 #[.int .i64 0, .int .i64 0, .string (⟨#[]⟩ : ByteArray)] (0, 0) _ rfl (bp3_ (bkx_ BK322.out)) Try.underlying25 rfl (by kernel_rfl)) rfl ?_; exact ⟨er_, bb_⟩
     ·rw [if_neg c11] at H
      have c11b0 : (a1 == (-9223372036854775808)) = false := beq_eq_false_iff_ne.mpr c11; have c11b1 : (a1 != (-9223372036854775808)) = true := bne_iff_ne.mpr c11
      by_cases c13 : a1 = (-1)
      ·rw [if_pos c13] at H
       have c13b0 : (a1 == (-1)) = true := beq_iff_eq.mpr c13; have c13b1 : (a1 != (-1)) = false := bne_eq_false_iff_eq.mpr c13; clear c13
       by_cases c14 : a0 = (-9223372036854775808)
       ·rw [if_pos c14] at H
        have c14b0 : (a0 == (-9223372036854775808)) = true := beq_iff_eq.mpr c14; have c14b1 : (a0 != (-9223372036854775808)) = false := bne_eq_false_iff_eq.mpr c14; clear c14; simp only [Option.some.injEq, Prod.mk.injEq] at H; obtain ⟨rfl, rfl, rfl⟩ := H; obtain ⟨hcz15_0, hcz15_1, hcz15_2, hfz15_0, hfz15_1, hfz15_2⟩ := b3_ BK322
        go_wp2
        refine bodyPost_ret (results_cell_row rfl _ _ gb322 25 #[.int .i64 0, .int .i64 0, .string (⟨#[]⟩ : ByteArray)] (0, 0) _ rfl (bp3_ (bkx_ BK322.out)) Try.underlying25 rfl (by kernel_rfl)) rfl ?_; exact ⟨er_, bb_⟩
       ·rw [if_neg c14] at H
        have c14b0 : (a0 == (-9223372036854775808)) = false := beq_eq_false_iff_ne.mpr c14; have c14b1 : (a0 != (-9223372036854775808)) = true := bne_iff_ne.mpr c14
        by_cases c16 : a1 = 0
        ·rw [if_pos c16] at H
         exact absurd H (by simp)
        ·rw [if_neg c16] at H
         have c16b0 : (a1 == 0) = false := beq_eq_false_iff_ne.mpr c16; have c16b1 : (a1 != 0) = true := bne_iff_ne.mpr c16
         by_cases c17 : (wrap64 (Int.tdiv (wrap64 (a0 * a1)) a1)) = a0
         ·rw [if_pos c17] at H
          have c17b0 : ((wrap64 (Int.tdiv (wrap64 (a0 * a1)) a1)) == a0) = true := beq_iff_eq.mpr c17; have c17b1 : ((wrap64 (Int.tdiv (wrap64 (a0 * a1)) a1)) != a0) = false := bne_eq_false_iff_eq.mpr c17; clear c17; replace H := Option.bind_eq_some_iff.mp H; obtain ⟨⟨t326, t327, t328⟩, A180, H⟩ := H; replace H : (some (t326, t327, t328)) = some (r1, r2, r3) := H; have A18 := Aside0.mk A180; clear A180; simp only [Option.some.injEq, Prod.mk.injEq] at H; obtain ⟨rfl, rfl, rfl⟩ := H
          go_wp2_with (first | ((with_reducible refine gate_callee (f := 101) rfl ?_); refine gsL_ (some 42) Try.func101 #[.int .i64 (wrap64 (a0 * a1))] ?_; (with_reducible refine (spec_l01Int.calls (wrap64 (a0 * a1)) t326 t327 t328 _ A18.out).mono ?_); rintro e w19 ⟨rfl, hb⟩; refine ⟨_, rfl, ?_⟩; replace BK322 := bkb_ BK322 hb; replace HB := bs_ hb; (try clear hb); obtain ⟨hcz20_0, hcz20_1, hcz20_2, hfz20_0, hfz20_1, hfz20_2⟩ := b3_ BK322))
          refine bodyPost_ret (results_cell_row rfl _ _ gb322 25 #[.int .i64 t326, .int .i64 t327, .string t328] (0, 0) _ rfl (bp3_ (bkx_ BK322.out)) Try.underlying25 rfl (by kernel_rfl)) rfl ?_; exact ⟨er_, bb_⟩
         ·rw [if_neg c17] at H
          have c17b0 : ((wrap64 (Int.tdiv (wrap64 (a0 * a1)) a1)) == a0) = false := beq_eq_false_iff_ne.mpr c17; have c17b1 : ((wrap64 (Int.tdiv (wrap64 (a0 * a1)) a1)) != a0) = true := bne_iff_ne.mpr c17; simp only [Option.some.injEq, Prod.mk.injEq] at H; obtain ⟨rfl, rfl, rfl⟩ := H; obtain ⟨hcz21_0, hcz21_1, hcz21_2, hfz21_0, hfz21_1, hfz21_2⟩ := b3_ BK322
          go_wp2
          refine bodyPost_ret (results_cell_row rfl _ _ gb322 25 #[.int .i64 0, .int .i64 0, .string (⟨#[]⟩ : ByteArray)] (0, 0) _ rfl (bp3_ (bkx_ BK322.out)) Try.underlying25 rfl (by kernel_rfl)) rfl ?_; exact ⟨er_, bb_⟩
      ·rw [if_neg c13] at H
       have c13b0 : (a1 == (-1)) = false := beq_eq_false_iff_ne.mpr c13; have c13b1 : (a1 != (-1)) = true := bne_iff_ne.mpr c13
       by_cases c22 : a1 = 0
       ·rw [if_pos c22] at H
        exact absurd H (by simp)
       ·rw [if_neg c22] at H
        have c22b0 : (a1 == 0) = false := beq_eq_false_iff_ne.mpr c22; have c22b1 : (a1 != 0) = true := bne_iff_ne.mpr c22
        by_cases c23 : (wrap64 (Int.tdiv (wrap64 (a0 * a1)) a1)) = a0
        ·rw [if_pos c23] at H
         have c23b0 : ((wrap64 (Int.tdiv (wrap64 (a0 * a1)) a1)) == a0) = true := beq_iff_eq.mpr c23; have c23b1 : ((wrap64 (Int.tdiv (wrap64 (a0 * a1)) a1)) != a0) = false := bne_eq_false_iff_eq.mpr c23; clear c23; replace H := Option.bind_eq_some_iff.mp H; obtain ⟨⟨t329, t330, t331⟩, A240, H⟩ := H; replace H : (some (t329, t330, t331)) = some (r1, r2, r3) := H; have A24 := Aside0.mk A240; clear A240; simp only [Option.some.injEq, Prod.mk.injEq] at H; obtain ⟨rfl, rfl, rfl⟩ := H
         go_wp2_with (first | ((with_reducible refine gate_callee (f := 101) rfl ?_); refine gsL_ (some 42) Try.func101 #[.int .i64 (wrap64 (a0 * a1))] ?_; (with_reducible refine (spec_l01Int.calls (wrap64 (a0 * a1)) t329 t330 t331 _ A24.out).mono ?_); rintro e w25 ⟨rfl, hb⟩; refine ⟨_, rfl, ?_⟩; replace BK322 := bkb_ BK322 hb; replace HB := bs_ hb; (try clear hb); obtain ⟨hcz26_0, hcz26_1, hcz26_2, hfz26_0, hfz26_1, hfz26_2⟩ := b3_ BK322))
         refine bodyPost_ret (results_cell_row rfl _ _ gb322 25 #[.int .i64 t329, .int .i64 t330, .string t331] (0, 0) _ rfl (bp3_ (bkx_ BK322.out)) Try.underlying25 rfl (by kernel_rfl)) rfl ?_; exact ⟨er_, bb_⟩
        ·rw [if_neg c23] at H
         have c23b0 : ((wrap64 (Int.tdiv (wrap64 (a0 * a1)) a1)) == a0) = false := beq_eq_false_iff_ne.mpr c23; have c23b1 : ((wrap64 (Int.tdiv (wrap64 (a0 * a1)) a1)) != a0) = true := bne_iff_ne.mpr c23; simp only [Option.some.injEq, Prod.mk.injEq] at H; obtain ⟨rfl, rfl, rfl⟩ := H; obtain ⟨hcz27_0, hcz27_1, hcz27_2, hfz27_0, hfz27_1, hfz27_2⟩ := b3_ BK322
         go_wp2
         refine bodyPost_ret (results_cell_row rfl _ _ gb322 25 #[.int .i64 0, .int .i64 0, .string (⟨#[]⟩ : ByteArray)] (0, 0) _ rfl (bp3_ (bkx_ BK322.out)) Try.underlying25 rfl (by kernel_rfl)) rfl ?_; exact ⟨er_, bb_⟩
    ·rw [if_neg c10] at H
     have c10b0 : (a0 == (-1)) = false := beq_eq_false_iff_ne.mpr c10; have c10b1 : (a0 != (-1)) = true := bne_iff_ne.mpr c10
     by_cases c28 : a1 = (-1)
     ·rw [if_pos c28] at H
      have c28b0 : (a1 == (-1)) = true := beq_iff_eq.mpr c28; have c28b1 : (a1 != (-1)) = false := bne_eq_false_iff_eq.mpr c28; clear c28
      by_cases c29 : a0 = (-9223372036854775808)
      ·rw [if_pos c29] at H
       have c29b0 : (a0 == (-9223372036854775808)) = true := beq_iff_eq.mpr c29; have c29b1 : (a0 != (-9223372036854775808)) = false := bne_eq_false_iff_eq.mpr c29; clear c29; simp only [Option.some.injEq, Prod.mk.injEq] at H; obtain ⟨rfl, rfl, rfl⟩ := H; obtain ⟨hcz30_0, hcz30_1, hcz30_2, hfz30_0, hfz30_1, hfz30_2⟩ := b3_ BK322
       go_wp2
       refine bodyPost_ret (results_cell_row rfl _ _ gb322 25 #[.int .i64 0, .int .i64 0, .string (⟨#[]⟩ : ByteArray)] (0, 0) _ rfl (bp3_ (bkx_ BK322.out)) Try.underlying25 rfl (by kernel_rfl)) rfl ?_; exact ⟨er_, bb_⟩
      ·rw [if_neg c29] at H
       have c29b0 : (a0 == (-9223372036854775808)) = false := beq_eq_false_iff_ne.mpr c29; have c29b1 : (a0 != (-9223372036854775808)) = true := bne_iff_ne.mpr c29
       by_cases c31 : a1 = 0
       ·rw [if_pos c31] at H
        exact absurd H (by simp)
       ·rw [if_neg c31] at H
        have c31b0 : (a1 == 0) = false := beq_eq_false_iff_ne.mpr c31; have c31b1 : (a1 != 0) = true := bne_iff_ne.mpr c31
        by_cases c32 : (wrap64 (Int.tdiv (wrap64 (a0 * a1)) a1)) = a0
        ·rw [if_pos c32] at H
         have c32b0 : ((wrap64 (Int.tdiv (wrap64 (a0 * a1)) a1)) == a0) = true := beq_iff_eq.mpr c32; have c32b1 : ((wrap64 (Int.tdiv (wrap64 (a0 * a1)) a1)) != a0) = false := bne_eq_false_iff_eq.mpr c32; clear c32; replace H := Option.bind_eq_some_iff.mp H; obtain ⟨⟨t332, t333, t334⟩, A330, H⟩ := H; replace H : (some (t332, t333, t334)) = some (r1, r2, r3) := H; have A33 := Aside0.mk A330; clear A330; simp only [Option.some.injEq, Prod.mk.injEq] at H; obtain ⟨rfl, rfl, rfl⟩ := H
         go_wp2_with (first | ((with_reducible refine gate_callee (f := 101) rfl ?_); refine gsL_ (some 42) Try.func101 #[.int .i64 (wrap64 (a0 * a1))] ?_; (with_reducible refine (spec_l01Int.calls (wrap64 (a0 * a1)) t332 t333 t334 _ A33.out).mono ?_); rintro e w34 ⟨rfl, hb⟩; refine ⟨_, rfl, ?_⟩; replace BK322 := bkb_ BK322 hb; replace HB := bs_ hb; (try clear hb); obtain ⟨hcz35_0, hcz35_1, hcz35_2, hfz35_0, hfz35_1, hfz35_2⟩ := b3_ BK322))
         refine bodyPost_ret (results_cell_row rfl _ _ gb322 25 #[.int .i64 t332, .int .i64 t333, .string t334] (0, 0) _ rfl (bp3_ (bkx_ BK322.out)) Try.underlying25 rfl (by kernel_rfl)) rfl ?_; exact ⟨er_, bb_⟩
        ·rw [if_neg c32] at H
         have c32b0 : ((wrap64 (Int.tdiv (wrap64 (a0 * a1)) a1)) == a0) = false := beq_eq_false_iff_ne.mpr c32; have c32b1 : ((wrap64 (Int.tdiv (wrap64 (a0 * a1)) a1)) != a0) = true := bne_iff_ne.mpr c32; simp only [Option.some.injEq, Prod.mk.injEq] at H; obtain ⟨rfl, rfl, rfl⟩ := H; obtain ⟨hcz36_0, hcz36_1, hcz36_2, hfz36_0, hfz36_1, hfz36_2⟩ := b3_ BK322
         go_wp2
         refine bodyPost_ret (results_cell_row rfl _ _ gb322 25 #[.int .i64 0, .int .i64 0, .string (⟨#[]⟩ : ByteArray)] (0, 0) _ rfl (bp3_ (bkx_ BK322.out)) Try.underlying25 rfl (by kernel_rfl)) rfl ?_; exact ⟨er_, bb_⟩
     ·rw [if_neg c28] at H
      have c28b0 : (a1 == (-1)) = false := beq_eq_false_iff_ne.mpr c28; have c28b1 : (a1 != (-1)) = true := bne_iff_ne.mpr c28
      by_cases c37 : a1 = 0
      ·rw [if_pos c37] at H
       exact absurd H (by simp)
      ·rw [if_neg c37] at H
       have c37b0 : (a1 == 0) = false := beq_eq_false_iff_ne.mpr c37; have c37b1 : (a1 != 0) = true := bne_iff_ne.mpr c37
       by_cases c38 : (wrap64 (Int.tdiv (wrap64 (a0 * a1)) a1)) = a0
       ·rw [if_pos c38] at H
        have c38b0 : ((wrap64 (Int.tdiv (wrap64 (a0 * a1)) a1)) == a0) = true := beq_iff_eq.mpr c38; have c38b1 : ((wrap64 (Int.tdiv (wrap64 (a0 * a1)) a1)) != a0) = false := bne_eq_false_iff_eq.mpr c38; clear c38; replace H := Option.bind_eq_some_iff.mp H; obtain ⟨⟨t335, t336, t337⟩, A390, H⟩ := H; replace H : (some (t335, t336, t337)) = some (r1, r2, r3) := H; have A39 := Aside0.mk A390; clear A390; simp only [Option.some.injEq, Prod.mk.injEq] at H; obtain ⟨rfl, rfl, rfl⟩ := H
        go_wp2_with (first | ((with_reducible refine gate_callee (f := 101) rfl ?_); refine gsL_ (some 42) Try.func101 #[.int .i64 (wrap64 (a0 * a1))] ?_; (with_reducible refine (spec_l01Int.calls (wrap64 (a0 * a1)) t335 t336 t337 _ A39.out).mono ?_); rintro e w40 ⟨rfl, hb⟩; refine ⟨_, rfl, ?_⟩; replace BK322 := bkb_ BK322 hb; replace HB := bs_ hb; (try clear hb); obtain ⟨hcz41_0, hcz41_1, hcz41_2, hfz41_0, hfz41_1, hfz41_2⟩ := b3_ BK322))
        refine bodyPost_ret (results_cell_row rfl _ _ gb322 25 #[.int .i64 t335, .int .i64 t336, .string t337] (0, 0) _ rfl (bp3_ (bkx_ BK322.out)) Try.underlying25 rfl (by kernel_rfl)) rfl ?_; exact ⟨er_, bb_⟩
       ·rw [if_neg c38] at H
        have c38b0 : ((wrap64 (Int.tdiv (wrap64 (a0 * a1)) a1)) == a0) = false := beq_eq_false_iff_ne.mpr c38; have c38b1 : ((wrap64 (Int.tdiv (wrap64 (a0 * a1)) a1)) != a0) = true := bne_iff_ne.mpr c38; simp only [Option.some.injEq, Prod.mk.injEq] at H; obtain ⟨rfl, rfl, rfl⟩ := H; obtain ⟨hcz42_0, hcz42_1, hcz42_2, hfz42_0, hfz42_1, hfz42_2⟩ := b3_ BK322
        go_wp2
        refine bodyPost_ret (results_cell_row rfl _ _ gb322 25 #[.int .i64 0, .int .i64 0, .string (⟨#[]⟩ : ByteArray)] (0, 0) _ rfl (bp3_ (bkx_ BK322.out)) Try.underlying25 rfl (by kernel_rfl)) rfl ?_; exact ⟨er_, bb_⟩

/-! ### spec_l01Quotient: function 104 -/
def spec_l01Quotient.j0 : Nat → Int → Int → Bool → Option (Int × Int × ByteArray)
 | 0, _, _, _ => none
 | k + 1, x0, x1, x15 => if x15 = true then (some (0, 0, (⟨#[]⟩ : ByteArray))) else (if x1 = 0 then (none) else (if (Int.tmod x0 x1) = 0 then ((spec_l01Int.f (wrap64 (Int.tdiv x0 x1))).bind fun bt339 => (some (bt339.1, bt339.2.1, bt339.2.2))) else (if ((decide (x0 < 0)) != (decide (x1 < 0))) = true then ((spec_l01Int.f (wrap64 ((wrap64 (Int.tdiv x0 x1)) - 1))).bind fun bt342 => (some (bt342.1, bt342.2.1, bt342.2.2))) else ((spec_l01Int.f (wrap64 (Int.tdiv x0 x1))).bind fun bt345 => (some (bt345.1, bt345.2.1, bt345.2.2))))))
def spec_l01Quotient.f (k : Nat) (a0 : Int) (a1 : Int) : Option (Int × Int × ByteArray) := if a1 = 0 then (spec_l01Quotient.j0 k a0 a1 true) else (if a1 = (-1) then (spec_l01Quotient.j0 k a0 a1 (a0 == (-9223372036854775808))) else (spec_l01Quotient.j0 k a0 a1 false))
set_option maxHeartbeats 8000000 in
set_option maxRecDepth 100000 in
theorem spec_l01Quotient.calls (k : Nat) (a0 : Int) (a1 : Int) (r1 : Int) (r2 : Int) (r3 : ByteArray) (w : World) (h : spec_l01Quotient.f k a0 a1 = some (r1, r2, r3)) :
  Calls Try.prog 104 #[.int .i64 a0, .int .i64 a1] w fun e w' => e = .returned (.agg #[.int .i64 r1, .int .i64 r2, .string r3]) ∧ Below w.heap.size w w' := by
 have hu25 := Try.underlying25
 have HB := Aside0.mk (Below.refl w.heap.size w)
 have H : (if a1 = 0 then (spec_l01Quotient.j0 k a0 a1 true) else (if a1 = (-1) then (spec_l01Quotient.j0 k a0 a1 (a0 == (-9223372036854775808))) else (spec_l01Quotient.j0 k a0 a1 false))) = some (r1, r2, r3) := h
 clear h
 have HC3 := Aside0.mk H
 clear H
 go_enter Try.func104, Try.ntmps104
 go_upto_region 1 with (first | ((with_reducible refine gate_dst (N := 4) rfl ?_); refine bx_ 4 #[.int .i64 0, .int .i64 0, .string (⟨#[]⟩ : ByteArray)] 25 ?_; intro gb338 hg w4 hbox hb; have BK338 := Aside0.mk (hbox); have GW338 := gw_ hg; have GE338 := gw_ hg; replace HB := bs_ hb; clear hb hbox hg))
 (try simp only [Act.put, List.setIfInBounds_toArray, List.set_cons_zero, List.set_cons_succ])
 go_cut [15] (fun v15 wc => ∃ (kq : Nat) (x15_2 : Bool), v15 = .bool x15_2 ∧ Aside0 (spec_l01Quotient.j0 kq a0 a1 x15_2 = some (r1, r2, r3)) ∧ Aside0 (kq ≤ k) ∧ Aside0 (wc.heap[gb338]? = some (.cells #[.int .i64 0, .int .i64 0, .string (⟨#[]⟩ : ByteArray)] 25 (0, 0))) ∧ Aside0 (Below w.heap.size w wc))
 case first =>
  have H := HC3.out; clear HC3
  by_cases c5 : a1 = 0
  ·rw [if_pos c5] at H
   have c5b0 : (a1 == 0) = true := beq_iff_eq.mpr c5; have c5b1 : (a1 != 0) = false := bne_eq_false_iff_eq.mpr c5; clear c5; (first | rw [c5b0] | (simp only [i64_w, i32_w]; rw [c5b0]) | skip); have H' := Aside0.mk H; clear H
   go_wp2
   go_meet
   case rel => exact ⟨_, (true), rs_, H', ⟨by first | omega | exact Nat.le_refl _⟩, ⟨bkx_ BK338.out⟩, ⟨bb_⟩⟩
  ·rw [if_neg c5] at H
   have c5b0 : (a1 == 0) = false := beq_eq_false_iff_ne.mpr c5; have c5b1 : (a1 != 0) = true := bne_iff_ne.mpr c5; (first | rw [c5b0] | (simp only [i64_w, i32_w]; rw [c5b0]) | skip)
   by_cases c6 : a1 = (-1)
   ·rw [if_pos c6] at H
    have c6b0 : (a1 == (-1)) = true := beq_iff_eq.mpr c6; have c6b1 : (a1 != (-1)) = false := bne_eq_false_iff_eq.mpr c6; clear c6; have H' := Aside0.mk H; clear H
    go_wp2
    go_meet
    case rel => exact ⟨_, ((a0 == (-9223372036854775808))), rs_, H', ⟨by first | omega | exact Nat.le_refl _⟩, ⟨bkx_ BK338.out⟩, ⟨bb_⟩⟩
   ·rw [if_neg c6] at H
    have c6b0 : (a1 == (-1)) = false := beq_eq_false_iff_ne.mpr c6; have c6b1 : (a1 != (-1)) = true := bne_iff_ne.mpr c6; have H' := Aside0.mk H; clear H
    go_wp2
    go_meet
    case rel => exact ⟨_, (false), rs_, H', ⟨by first | omega | exact Nat.le_refl _⟩, ⟨bkx_ BK338.out⟩, ⟨bb_⟩⟩
 case rest =>
  clear HC3; (try clear c1); (try clear p2); (try clear c5); (try clear c5b0); (try clear c5b1); (try clear c6); (try clear c6b0); (try clear c6b1); obtain ⟨kq, x15_2, rfl, HA, HJ2, BK338, HB⟩ := hcut
  cases kq with
  | zero => exact absurd HA.out (by simp [spec_l01Quotient.j0])
  | succ kj2 =>
   have H := HA.out; clear HA; simp only [spec_l01Quotient.j0] at H
   by_cases c7 : x15_2 = true
   ·subst c7
    (have H1 : (some (0, 0, (⟨#[]⟩ : ByteArray))) = some (r1, r2, r3) := by rw [if_pos rfl] at H; exact H); clear H; have H := H1; clear H1; simp only [Option.some.injEq, Prod.mk.injEq] at H; obtain ⟨rfl, rfl, rfl⟩ := H; obtain ⟨hcz8_0, hcz8_1, hcz8_2, hfz8_0, hfz8_1, hfz8_2⟩ := b3_ BK338
    go_wp2
    refine bodyPost_ret (results_cell_row rfl _ _ gb338 25 #[.int .i64 0, .int .i64 0, .string (⟨#[]⟩ : ByteArray)] (0, 0) _ rfl (bp3_ (bkx_ BK338.out)) Try.underlying25 rfl (by kernel_rfl)) rfl ?_; exact ⟨er_, bb_⟩
   ·replace c7 := Bool.eq_false_iff.mpr c7
    subst c7; (have H1 : (if a1 = 0 then (none) else (if (Int.tmod a0 a1) = 0 then ((spec_l01Int.f (wrap64 (Int.tdiv a0 a1))).bind fun bt339 => (some (bt339.1, bt339.2.1, bt339.2.2))) else (if ((decide (a0 < 0)) != (decide (a1 < 0))) = true then ((spec_l01Int.f (wrap64 ((wrap64 (Int.tdiv a0 a1)) - 1))).bind fun bt342 => (some (bt342.1, bt342.2.1, bt342.2.2))) else ((spec_l01Int.f (wrap64 (Int.tdiv a0 a1))).bind fun bt345 => (some (bt345.1, bt345.2.1, bt345.2.2)))))) = some (r1, r2, r3) := by rw [if_neg (show ¬ (false = true) by decide)] at H; exact H); clear H; have H := H1; clear H1
    by_cases c9 : a1 = 0
    ·rw [if_pos c9] at H
     exact absurd H (by simp)
    ·rw [if_neg c9] at H
     have c9b0 : (a1 == 0) = false := beq_eq_false_iff_ne.mpr c9; have c9b1 : (a1 != 0) = true := bne_iff_ne.mpr c9
     by_cases c10 : (Int.tmod a0 a1) = 0
     ·rw [if_pos c10] at H
      have c10b0 : ((Int.tmod a0 a1) == 0) = true := beq_iff_eq.mpr c10; have c10b1 : ((Int.tmod a0 a1) != 0) = false := bne_eq_false_iff_eq.mpr c10; clear c10; replace H := Option.bind_eq_some_iff.mp H; obtain ⟨⟨t339, t340, t341⟩, A110, H⟩ := H; replace H : (some (t339, t340, t341)) = some (r1, r2, r3) := H; have A11 := Aside0.mk A110; clear A110; simp only [Option.some.injEq, Prod.mk.injEq] at H; obtain ⟨rfl, rfl, rfl⟩ := H
      go_wp2_with (first | ((with_reducible refine gate_callee (f := 101) rfl ?_); refine gsL_ (some 34) Try.func101 #[.int .i64 (wrap64 (Int.tdiv a0 a1))] ?_; (with_reducible refine (spec_l01Int.calls (wrap64 (Int.tdiv a0 a1)) t339 t340 t341 _ A11.out).mono ?_); rintro e w12 ⟨rfl, hb⟩; refine ⟨_, rfl, ?_⟩; replace BK338 := bkb_ BK338 hb; replace HB := bs_ hb; (try clear hb); obtain ⟨hcz13_0, hcz13_1, hcz13_2, hfz13_0, hfz13_1, hfz13_2⟩ := b3_ BK338))
      refine bodyPost_ret (results_cell_row rfl _ _ gb338 25 #[.int .i64 t339, .int .i64 t340, .string t341] (0, 0) _ rfl (bp3_ (bkx_ BK338.out)) Try.underlying25 rfl (by kernel_rfl)) rfl ?_; exact ⟨er_, bb_⟩
     ·rw [if_neg c10] at H
      have c10b0 : ((Int.tmod a0 a1) == 0) = false := beq_eq_false_iff_ne.mpr c10; have c10b1 : ((Int.tmod a0 a1) != 0) = true := bne_iff_ne.mpr c10
      by_cases c14 : ((decide (a0 < 0)) != (decide (a1 < 0))) = true
      ·rw [if_pos c14] at H
       have c14b0 : ((decide (a0 < 0)) != (decide (a1 < 0))) = true := c14; (try (have c14b1 : decide ((decide (a0 < 0)) = (decide (a1 < 0))) = false := by simpa using c14)); (try (have c14b2 : ((decide (a0 < 0)) == (decide (a1 < 0))) = false := by simpa using c14)); (try (have c14b3 : ¬ ((decide (a0 < 0)) = (decide (a1 < 0))) := by simpa using c14)); clear c14; replace H := Option.bind_eq_some_iff.mp H; obtain ⟨⟨t342, t343, t344⟩, A150, H⟩ := H; replace H : (some (t342, t343, t344)) = some (r1, r2, r3) := H; have A15 := Aside0.mk A150; clear A150; simp only [Option.some.injEq, Prod.mk.injEq] at H; obtain ⟨rfl, rfl, rfl⟩ := H
       go_wp2_with (first | ((with_reducible refine gate_callee (f := 101) rfl ?_); refine gsL_ (some 34) Try.func101 #[.int .i64 (wrap64 ((wrap64 (Int.tdiv a0 a1)) - 1))] ?_; (with_reducible refine (spec_l01Int.calls (wrap64 ((wrap64 (Int.tdiv a0 a1)) - 1)) t342 t343 t344 _ A15.out).mono ?_); rintro e w16 ⟨rfl, hb⟩; refine ⟨_, rfl, ?_⟩; replace BK338 := bkb_ BK338 hb; replace HB := bs_ hb; (try clear hb); obtain ⟨hcz17_0, hcz17_1, hcz17_2, hfz17_0, hfz17_1, hfz17_2⟩ := b3_ BK338))
       refine bodyPost_ret (results_cell_row rfl _ _ gb338 25 #[.int .i64 t342, .int .i64 t343, .string t344] (0, 0) _ rfl (bp3_ (bkx_ BK338.out)) Try.underlying25 rfl (by kernel_rfl)) rfl ?_; exact ⟨er_, bb_⟩
      ·rw [if_neg c14] at H
       (have c14b0 : ((decide (a0 < 0)) != (decide (a1 < 0))) = false := by simpa using c14); (try (have c14b1 : decide ((decide (a0 < 0)) = (decide (a1 < 0))) = true := by simpa using c14)); (try (have c14b2 : ((decide (a0 < 0)) == (decide (a1 < 0))) = true := by simpa using c14)); clear c14; replace H := Option.bind_eq_some_iff.mp H; obtain ⟨⟨t345, t346, t347⟩, A180, H⟩ := H; replace H : (some (t345, t346, t347)) = some (r1, r2, r3) := H; have A18 := Aside0.mk A180; clear A180; simp only [Option.some.injEq, Prod.mk.injEq] at H; obtain ⟨rfl, rfl, rfl⟩ := H
       go_wp2_with (first | ((with_reducible refine gate_callee (f := 101) rfl ?_); refine gsL_ (some 34) Try.func101 #[.int .i64 (wrap64 (Int.tdiv a0 a1))] ?_; (with_reducible refine (spec_l01Int.calls (wrap64 (Int.tdiv a0 a1)) t345 t346 t347 _ A18.out).mono ?_); rintro e w19 ⟨rfl, hb⟩; refine ⟨_, rfl, ?_⟩; replace BK338 := bkb_ BK338 hb; replace HB := bs_ hb; (try clear hb); obtain ⟨hcz20_0, hcz20_1, hcz20_2, hfz20_0, hfz20_1, hfz20_2⟩ := b3_ BK338))
       refine bodyPost_ret (results_cell_row rfl _ _ gb338 25 #[.int .i64 t345, .int .i64 t346, .string t347] (0, 0) _ rfl (bp3_ (bkx_ BK338.out)) Try.underlying25 rfl (by kernel_rfl)) rfl ?_; exact ⟨er_, bb_⟩

/-! ### spec_l01Arith: function 57 -/
def spec_l01Arith.f (k : Nat) (a0 : ByteArray) (a1 : Int) (a2 : Int) : Option (Int × Int × ByteArray) := if a0.toList = ([43] : List UInt8) then (if a2 = 0 then ((spec_l01Int.f a1).bind fun bt349 => (some (bt349.1, bt349.2.1, bt349.2.2))) else ((spec_l01Sum.f a1 a2).bind fun bt352 => (some (bt352.1, bt352.2.1, bt352.2.2)))) else (if a0.toList = ([45] : List UInt8) then (if ((decide ((wrap64 (a1 - a2)) < a1)) != (decide (a2 > 0))) = true then (if a2 = 0 then ((spec_l01Int.f (wrap64 (a1 - a2))).bind fun bt355 => (some (bt355.1, bt355.2.1, bt355.2.2))) else (some (0, 0, (⟨#[]⟩ : ByteArray)))) else ((spec_l01Int.f (wrap64 (a1 - a2))).bind fun bt358 => (some (bt358.1, bt358.2.1, bt358.2.2)))) else (if a0.toList = ([42] : List UInt8) then ((spec_l01Product.f k a1 a2).bind fun bt361 => (some (bt361.1, bt361.2.1, bt361.2.2))) else (if a0.toList = ([47] : List UInt8) then ((spec_l01Quotient.f k a1 a2).bind fun bt364 => (some (bt364.1, bt364.2.1, bt364.2.2))) else (some (0, 0, (⟨#[]⟩ : ByteArray))))))
set_option maxHeartbeats 8000000 in
set_option maxRecDepth 100000 in
theorem spec_l01Arith.calls (k : Nat) (a0 : ByteArray) (a1 : Int) (a2 : Int) (r1 : Int) (r2 : Int) (r3 : ByteArray) (w : World) (h : spec_l01Arith.f k a0 a1 a2 = some (r1, r2, r3)) :
  Calls Try.prog 57 #[.string a0, .int .i64 a1, .int .i64 a2] w fun e w' => e = .returned (.agg #[.int .i64 r1, .int .i64 r2, .string r3]) ∧ Below w.heap.size w w' := by
 have hu25 := Try.underlying25
 have HB := Aside0.mk (Below.refl w.heap.size w)
 have H : (if a0.toList = ([43] : List UInt8) then (if a2 = 0 then ((spec_l01Int.f a1).bind fun bt349 => (some (bt349.1, bt349.2.1, bt349.2.2))) else ((spec_l01Sum.f a1 a2).bind fun bt352 => (some (bt352.1, bt352.2.1, bt352.2.2)))) else (if a0.toList = ([45] : List UInt8) then (if ((decide ((wrap64 (a1 - a2)) < a1)) != (decide (a2 > 0))) = true then (if a2 = 0 then ((spec_l01Int.f (wrap64 (a1 - a2))).bind fun bt355 => (some (bt355.1, bt355.2.1, bt355.2.2))) else (some (0, 0, (⟨#[]⟩ : ByteArray)))) else ((spec_l01Int.f (wrap64 (a1 - a2))).bind fun bt358 => (some (bt358.1, bt358.2.1, bt358.2.2)))) else (if a0.toList = ([42] : List UInt8) then ((spec_l01Product.f k a1 a2).bind fun bt361 => (some (bt361.1, bt361.2.1, bt361.2.2))) else (if a0.toList = ([47] : List UInt8) then ((spec_l01Quotient.f k a1 a2).bind fun bt364 => (some (bt364.1, bt364.2.1, bt364.2.2))) else (some (0, 0, (⟨#[]⟩ : ByteArray))))))) = some (r1, r2, r3) := h
 clear h
 by_cases c4 : a0.toList = ([43] : List UInt8)
 ·rw [if_pos c4] at H
  have c4b0 : (a0.toList == ([43] : List UInt8)) = true := beq_iff_eq.mpr c4; have c4b1 : (a0.toList != ([43] : List UInt8)) = false := bne_eq_false_iff_eq.mpr c4; clear c4
  by_cases c5 : a2 = 0
  ·rw [if_pos c5] at H
   have c5b0 : (a2 == 0) = true := beq_iff_eq.mpr c5; have c5b1 : (a2 != 0) = false := bne_eq_false_iff_eq.mpr c5; clear c5; replace H := Option.bind_eq_some_iff.mp H; obtain ⟨⟨t349, t350, t351⟩, A60, H⟩ := H; replace H : (some (t349, t350, t351)) = some (r1, r2, r3) := H; have A6 := Aside0.mk A60; clear A60; simp only [Option.some.injEq, Prod.mk.injEq] at H; obtain ⟨rfl, rfl, rfl⟩ := H
   go_enter Try.func57, Try.ntmps57
   go_wp2_with (first | ((with_reducible refine gate_dst (N := 6) rfl ?_); refine bx_ 6 #[.int .i64 0, .int .i64 0, .string (⟨#[]⟩ : ByteArray)] 25 ?_; intro gb348 hg w7 hbox hb; have BK348 := Aside0.mk (hbox); have GW348 := gw_ hg; have GE348 := gw_ hg; replace HB := bs_ hb; clear hb hbox hg) | ((with_reducible refine gate_callee (f := 101) rfl ?_); refine gsL_ (some 13) Try.func101 #[.int .i64 a1] ?_; (with_reducible refine (spec_l01Int.calls a1 t349 t350 t351 _ A6.out).mono ?_); rintro e w8 ⟨rfl, hb⟩; refine ⟨_, rfl, ?_⟩; replace BK348 := bkb_ BK348 hb; replace HB := bs_ hb; (try clear hb); obtain ⟨hcz9_0, hcz9_1, hcz9_2, hfz9_0, hfz9_1, hfz9_2⟩ := b3_ BK348))
   refine bodyPost_ret (results_cell_row rfl _ _ gb348 25 #[.int .i64 t349, .int .i64 t350, .string t351] (0, 0) _ rfl (bp3_ (bkx_ BK348.out)) Try.underlying25 rfl (by kernel_rfl)) rfl ?_; exact ⟨er_, bb_⟩
  ·rw [if_neg c5] at H
   have c5b0 : (a2 == 0) = false := beq_eq_false_iff_ne.mpr c5; have c5b1 : (a2 != 0) = true := bne_iff_ne.mpr c5; replace H := Option.bind_eq_some_iff.mp H; obtain ⟨⟨t352, t353, t354⟩, A100, H⟩ := H; replace H : (some (t352, t353, t354)) = some (r1, r2, r3) := H; have A10 := Aside0.mk A100; clear A100; simp only [Option.some.injEq, Prod.mk.injEq] at H; obtain ⟨rfl, rfl, rfl⟩ := H
   go_enter Try.func57, Try.ntmps57
   go_wp2_with (first | ((with_reducible refine gate_dst (N := 6) rfl ?_); refine bx_ 6 #[.int .i64 0, .int .i64 0, .string (⟨#[]⟩ : ByteArray)] 25 ?_; intro gb348 hg w11 hbox hb; have BK348 := Aside0.mk (hbox); have GW348 := gw_ hg; have GE348 := gw_ hg; replace HB := bs_ hb; clear hb hbox hg) | ((with_reducible refine gate_callee (f := 102) rfl ?_); refine gsL_ (some 16) Try.func102 #[.int .i64 a1, .int .i64 a2] ?_; (with_reducible refine (spec_l01Sum.calls a1 a2 t352 t353 t354 _ A10.out).mono ?_); rintro e w12 ⟨rfl, hb⟩; refine ⟨_, rfl, ?_⟩; replace BK348 := bkb_ BK348 hb; replace HB := bs_ hb; (try clear hb); obtain ⟨hcz13_0, hcz13_1, hcz13_2, hfz13_0, hfz13_1, hfz13_2⟩ := b3_ BK348))
   refine bodyPost_ret (results_cell_row rfl _ _ gb348 25 #[.int .i64 t352, .int .i64 t353, .string t354] (0, 0) _ rfl (bp3_ (bkx_ BK348.out)) Try.underlying25 rfl (by kernel_rfl)) rfl ?_; exact ⟨er_, bb_⟩
 ·rw [if_neg c4] at H
  have c4b0 : (a0.toList == ([43] : List UInt8)) = false := beq_eq_false_iff_ne.mpr c4; have c4b1 : (a0.toList != ([43] : List UInt8)) = true := bne_iff_ne.mpr c4
  by_cases c14 : a0.toList = ([45] : List UInt8)
  ·rw [if_pos c14] at H
   have c14b0 : (a0.toList == ([45] : List UInt8)) = true := beq_iff_eq.mpr c14; have c14b1 : (a0.toList != ([45] : List UInt8)) = false := bne_eq_false_iff_eq.mpr c14; clear c14
   by_cases c15 : ((decide ((wrap64 (a1 - a2)) < a1)) != (decide (a2 > 0))) = true
   ·rw [if_pos c15] at H
    have c15b0 : ((decide ((wrap64 (a1 - a2)) < a1)) != (decide (a2 > 0))) = true := c15; (try (have c15b1 : decide ((decide ((wrap64 (a1 - a2)) < a1)) = (decide (a2 > 0))) = false := by simpa using c15)); (try (have c15b2 : ((decide ((wrap64 (a1 - a2)) < a1)) == (decide (a2 > 0))) = false := by simpa using c15)); (try (have c15b3 : ¬ ((decide ((wrap64 (a1 - a2)) < a1)) = (decide (a2 > 0))) := by simpa using c15)); clear c15
    by_cases c16 : a2 = 0
    ·rw [if_pos c16] at H
     have c16b0 : (a2 == 0) = true := beq_iff_eq.mpr c16; have c16b1 : (a2 != 0) = false := bne_eq_false_iff_eq.mpr c16; clear c16; replace H := Option.bind_eq_some_iff.mp H; obtain ⟨⟨t355, t356, t357⟩, A170, H⟩ := H; replace H : (some (t355, t356, t357)) = some (r1, r2, r3) := H; have A17 := Aside0.mk A170; clear A170; simp only [Option.some.injEq, Prod.mk.injEq] at H; obtain ⟨rfl, rfl, rfl⟩ := H
     go_enter Try.func57, Try.ntmps57
     go_wp2_with (first | ((with_reducible refine gate_dst (N := 6) rfl ?_); refine bx_ 6 #[.int .i64 0, .int .i64 0, .string (⟨#[]⟩ : ByteArray)] 25 ?_; intro gb348 hg w18 hbox hb; have BK348 := Aside0.mk (hbox); have GW348 := gw_ hg; have GE348 := gw_ hg; replace HB := bs_ hb; clear hb hbox hg) | ((with_reducible refine gate_callee (f := 101) rfl ?_); refine gsL_ (some 35) Try.func101 #[.int .i64 (wrap64 (a1 - a2))] ?_; (with_reducible refine (spec_l01Int.calls (wrap64 (a1 - a2)) t355 t356 t357 _ A17.out).mono ?_); rintro e w19 ⟨rfl, hb⟩; refine ⟨_, rfl, ?_⟩; replace BK348 := bkb_ BK348 hb; replace HB := bs_ hb; (try clear hb); obtain ⟨hcz20_0, hcz20_1, hcz20_2, hfz20_0, hfz20_1, hfz20_2⟩ := b3_ BK348))
     refine bodyPost_ret (results_cell_row rfl _ _ gb348 25 #[.int .i64 t355, .int .i64 t356, .string t357] (0, 0) _ rfl (bp3_ (bkx_ BK348.out)) Try.underlying25 rfl (by kernel_rfl)) rfl ?_; exact ⟨er_, bb_⟩
    ·rw [if_neg c16] at H
     have c16b0 : (a2 == 0) = false := beq_eq_false_iff_ne.mpr c16; have c16b1 : (a2 != 0) = true := bne_iff_ne.mpr c16; simp only [Option.some.injEq, Prod.mk.injEq] at H; obtain ⟨rfl, rfl, rfl⟩ := H
     go_enter Try.func57, Try.ntmps57
     go_wp2_with (first | ((with_reducible refine gate_dst (N := 6) rfl ?_); refine bx_ 6 #[.int .i64 0, .int .i64 0, .string (⟨#[]⟩ : ByteArray)] 25 ?_; intro gb348 hg w21 hbox hb; have BK348 := Aside0.mk (hbox); have GW348 := gw_ hg; have GE348 := gw_ hg; replace HB := bs_ hb; clear hb hbox hg; obtain ⟨hcz22_0, hcz22_1, hcz22_2, hfz22_0, hfz22_1, hfz22_2⟩ := b3_ BK348))
     refine bodyPost_ret (results_cell_row rfl _ _ gb348 25 #[.int .i64 0, .int .i64 0, .string (⟨#[]⟩ : ByteArray)] (0, 0) _ rfl (bp3_ (bkx_ BK348.out)) Try.underlying25 rfl (by kernel_rfl)) rfl ?_; exact ⟨er_, bb_⟩
   ·rw [if_neg c15] at H
    (have c15b0 : ((decide ((wrap64 (a1 - a2)) < a1)) != (decide (a2 > 0))) = false := by simpa using c15); (try (have c15b1 : decide ((decide ((wrap64 (a1 - a2)) < a1)) = (decide (a2 > 0))) = true := by simpa using c15)); (try (have c15b2 : ((decide ((wrap64 (a1 - a2)) < a1)) == (decide (a2 > 0))) = true := by simpa using c15)); clear c15; replace H := Option.bind_eq_some_iff.mp H; obtain ⟨⟨t358, t359, t360⟩, A230, H⟩ := H; replace H : (some (t358, t359, t360)) = some (r1, r2, r3) := H; have A23 := Aside0.mk A230; clear A230; simp only [Option.some.injEq, Prod.mk.injEq] at H; obtain ⟨rfl, rfl, rfl⟩ := H
    go_enter Try.func57, Try.ntmps57
    go_wp2_with (first | ((with_reducible refine gate_dst (N := 6) rfl ?_); refine bx_ 6 #[.int .i64 0, .int .i64 0, .string (⟨#[]⟩ : ByteArray)] 25 ?_; intro gb348 hg w24 hbox hb; have BK348 := Aside0.mk (hbox); have GW348 := gw_ hg; have GE348 := gw_ hg; replace HB := bs_ hb; clear hb hbox hg) | ((with_reducible refine gate_callee (f := 101) rfl ?_); refine gsL_ (some 35) Try.func101 #[.int .i64 (wrap64 (a1 - a2))] ?_; (with_reducible refine (spec_l01Int.calls (wrap64 (a1 - a2)) t358 t359 t360 _ A23.out).mono ?_); rintro e w25 ⟨rfl, hb⟩; refine ⟨_, rfl, ?_⟩; replace BK348 := bkb_ BK348 hb; replace HB := bs_ hb; (try clear hb); obtain ⟨hcz26_0, hcz26_1, hcz26_2, hfz26_0, hfz26_1, hfz26_2⟩ := b3_ BK348))
    refine bodyPost_ret (results_cell_row rfl _ _ gb348 25 #[.int .i64 t358, .int .i64 t359, .string t360] (0, 0) _ rfl (bp3_ (bkx_ BK348.out)) Try.underlying25 rfl (by kernel_rfl)) rfl ?_; exact ⟨er_, bb_⟩
  ·rw [if_neg c14] at H
   have c14b0 : (a0.toList == ([45] : List UInt8)) = false := beq_eq_false_iff_ne.mpr c14; have c14b1 : (a0.toList != ([45] : List UInt8)) = true := bne_iff_ne.mpr c14
   by_cases c27 : a0.toList = ([42] : List UInt8)
   ·rw [if_pos c27] at H
    have c27b0 : (a0.toList == ([42] : List UInt8)) = true := beq_iff_eq.mpr c27; have c27b1 : (a0.toList != ([42] : List UInt8)) = false := bne_eq_false_iff_eq.mpr c27; clear c27; replace H := Option.bind_eq_some_iff.mp H; obtain ⟨⟨t361, t362, t363⟩, A280, H⟩ := H; replace H : (some (t361, t362, t363)) = some (r1, r2, r3) := H; have A28 := Aside0.mk A280; clear A280; simp only [Option.some.injEq, Prod.mk.injEq] at H; obtain ⟨rfl, rfl, rfl⟩ := H
    go_enter Try.func57, Try.ntmps57
    go_wp2_with (first | ((with_reducible refine gate_dst (N := 6) rfl ?_); refine bx_ 6 #[.int .i64 0, .int .i64 0, .string (⟨#[]⟩ : ByteArray)] 25 ?_; intro gb348 hg w29 hbox hb; have BK348 := Aside0.mk (hbox); have GW348 := gw_ hg; have GE348 := gw_ hg; replace HB := bs_ hb; clear hb hbox hg) | ((with_reducible refine gate_callee (f := 103) rfl ?_); refine gsL_ (some 40) Try.func103 #[.int .i64 a1, .int .i64 a2] ?_; (with_reducible refine (spec_l01Product.calls k a1 a2 t361 t362 t363 _ A28.out).mono ?_); rintro e w30 ⟨rfl, hb⟩; refine ⟨_, rfl, ?_⟩; replace BK348 := bkb_ BK348 hb; replace HB := bs_ hb; (try clear hb); obtain ⟨hcz31_0, hcz31_1, hcz31_2, hfz31_0, hfz31_1, hfz31_2⟩ := b3_ BK348))
    refine bodyPost_ret (results_cell_row rfl _ _ gb348 25 #[.int .i64 t361, .int .i64 t362, .string t363] (0, 0) _ rfl (bp3_ (bkx_ BK348.out)) Try.underlying25 rfl (by kernel_rfl)) rfl ?_; exact ⟨er_, bb_⟩
   ·rw [if_neg c27] at H
    have c27b0 : (a0.toList == ([42] : List UInt8)) = false := beq_eq_false_iff_ne.mpr c27; have c27b1 : (a0.toList != ([42] : List UInt8)) = true := bne_iff_ne.mpr c27
    by_cases c32 : a0.toList = ([47] : List UInt8)
    ·rw [if_pos c32] at H
     have c32b0 : (a0.toList == ([47] : List UInt8)) = true := beq_iff_eq.mpr c32; have c32b1 : (a0.toList != ([47] : List UInt8)) = false := bne_eq_false_iff_eq.mpr c32; clear c32; replace H := Option.bind_eq_some_iff.mp H; obtain ⟨⟨t364, t365, t366⟩, A330, H⟩ := H; replace H : (some (t364, t365, t366)) = some (r1, r2, r3) := H; have A33 := Aside0.mk A330; clear A330; simp only [Option.some.injEq, Prod.mk.injEq] at H; obtain ⟨rfl, rfl, rfl⟩ := H
     go_enter Try.func57, Try.ntmps57
     go_wp2_with (first | ((with_reducible refine gate_dst (N := 6) rfl ?_); refine bx_ 6 #[.int .i64 0, .int .i64 0, .string (⟨#[]⟩ : ByteArray)] 25 ?_; intro gb348 hg w34 hbox hb; have BK348 := Aside0.mk (hbox); have GW348 := gw_ hg; have GE348 := gw_ hg; replace HB := bs_ hb; clear hb hbox hg) | ((with_reducible refine gate_callee (f := 104) rfl ?_); refine gsL_ (some 45) Try.func104 #[.int .i64 a1, .int .i64 a2] ?_; (with_reducible refine (spec_l01Quotient.calls k a1 a2 t364 t365 t366 _ A33.out).mono ?_); rintro e w35 ⟨rfl, hb⟩; refine ⟨_, rfl, ?_⟩; replace BK348 := bkb_ BK348 hb; replace HB := bs_ hb; (try clear hb); obtain ⟨hcz36_0, hcz36_1, hcz36_2, hfz36_0, hfz36_1, hfz36_2⟩ := b3_ BK348))
     refine bodyPost_ret (results_cell_row rfl _ _ gb348 25 #[.int .i64 t364, .int .i64 t365, .string t366] (0, 0) _ rfl (bp3_ (bkx_ BK348.out)) Try.underlying25 rfl (by kernel_rfl)) rfl ?_; exact ⟨er_, bb_⟩
    ·rw [if_neg c32] at H
     have c32b0 : (a0.toList == ([47] : List UInt8)) = false := beq_eq_false_iff_ne.mpr c32; have c32b1 : (a0.toList != ([47] : List UInt8)) = true := bne_iff_ne.mpr c32; simp only [Option.some.injEq, Prod.mk.injEq] at H; obtain ⟨rfl, rfl, rfl⟩ := H
     go_enter Try.func57, Try.ntmps57
     go_wp2_with (first | ((with_reducible refine gate_dst (N := 6) rfl ?_); refine bx_ 6 #[.int .i64 0, .int .i64 0, .string (⟨#[]⟩ : ByteArray)] 25 ?_; intro gb348 hg w37 hbox hb; have BK348 := Aside0.mk (hbox); have GW348 := gw_ hg; have GE348 := gw_ hg; replace HB := bs_ hb; clear hb hbox hg; obtain ⟨hcz38_0, hcz38_1, hcz38_2, hfz38_0, hfz38_1, hfz38_2⟩ := b3_ BK348))
     refine bodyPost_ret (results_cell_row rfl _ _ gb348 25 #[.int .i64 0, .int .i64 0, .string (⟨#[]⟩ : ByteArray)] (0, 0) _ rfl (bp3_ (bkx_ BK348.out)) Try.underlying25 rfl (by kernel_rfl)) rfl ?_; exact ⟨er_, bb_⟩

end Go.Proofs.Ythgdmdabdlgliaa.PFnReckon
