-- WRITTEN BY xprint.py, a program of this session over the kit's printer: by nobody's hand
-- PRESSED
import Derived.Test.YtapgfamppnhnmaaPress
import Derived.Test.YtapgfamppnhnmaaPFnExactAndAllx0
import Derived.Test.YtapgfamppnhnmaaPFnExactAndAllx9
namespace Go.Proofs.Ytapgfamppnhnmaa.PFnExactAndAll
open Go.RowKit Go.Proofs.YtapgfamppnhnmaaW.PrintWords Go.Proofs.YtapgfamppnhnmaaW.PrintLast Go.Proofs.YtapgfamppnhnmaaW.PrintMore
attribute [local go_sem] max2_int min2_int max_two min_two max_three min_three max_four min_four   -- for this text's walks alone
set_option linter.unusedVariables false
set_option linter.unusedSimpArgs false

/-! ### laws_heldExpS: function 41 -/
mutual
def laws_heldExpS.l0 : Nat → List (S28) → Int → Int → Option (Int)
 | 0, _, _, _ => none
 | k + 1, x0, x1, x5 => if x5 < (x0.length : Int) then (if 0 ≤ x5 then (if ((rd_T28 x0 x5).f0) = x1 then (if ((rd_T28 x0 x5).f1) = (wrap64 (x1 + 1)) then (if ((rd_T28 x0 x5).f2.f0) = (wrap64 ((wrap64 (x1 + 1)) + 1)) then (if ((rd_T28 x0 x5).f2.f1) = (wrap64 ((wrap64 ((wrap64 (x1 + 1)) + 1)) + 1)) then ((laws_markText.f k (wrap64 ((wrap64 ((wrap64 ((wrap64 (x1 + 1)) + 1)) + 1)) + 1))).bind fun t353 => (if ((rd_T28 x0 x5).f2.f2).toList = t353.toList then ((laws_markText.f k (wrap64 ((wrap64 ((wrap64 ((wrap64 ((wrap64 (x1 + 1)) + 1)) + 1)) + 1)) + 1))).bind fun t355 => (if ((rd_T28 x0 x5).f3).toList = t355.toList then ((laws_heldExpS.f k ((rd_T28 x0 x5).f4) (wrap64 ((wrap64 ((wrap64 ((wrap64 ((wrap64 ((wrap64 (x1 + 1)) + 1)) + 1)) + 1)) + 1)) + 1))).bind fun t357 => (if t357 < 0 then (some (-1)) else (laws_heldExpS.l0 k x0 t357 (wrap64 (x5 + 1))))) else (some (-1)))) else (some (-1)))) else (some (-1))) else (some (-1))) else (some (-1))) else (some (-1))) else (none)) else (some x1)
def laws_heldExpS.f : Nat → List (S28) → Int → Option (Int)
 | 0, _, _ => none
 | k + 1, l0, a1 => laws_heldExpS.l0 k l0 a1 0
end
def laws_heldExpS.T16 : Bool × List (List Nat × List Nat) := (true, [([], []), ([], []), ([0, 1], [0, 1]), ([2], [2]), ([3], [3]), ([4], [4]), ([], []), ([6], [6]), ([5, 7], [5, 7])])
def laws_heldExpS.B16 : List Nat := [0, 0, 3, 7, 15, 31, 0, 64, 255]
theorem laws_heldExpS.tab16 : rtab .any (opsOf Try.f41 16) = laws_heldExpS.T16 := by kernel_rfl
theorem laws_heldExpS.bits16 : waitsOk laws_heldExpS.T16.2 laws_heldExpS.B16 = true := by kernel_rfl
def laws_heldExpS.T19 : Bool × List (List Nat × List Nat) := (true, [([], []), ([], []), ([0, 1], [0, 1]), ([2], [2]), ([3], [3]), ([], []), ([5], [5]), ([4, 6], [4, 6])])
def laws_heldExpS.B19 : List Nat := [0, 0, 3, 7, 15, 0, 32, 127]
theorem laws_heldExpS.tab19 : rtab .any (opsOf Try.f41 19) = laws_heldExpS.T19 := by kernel_rfl
theorem laws_heldExpS.bits19 : waitsOk laws_heldExpS.T19.2 laws_heldExpS.B19 = true := by kernel_rfl
set_option maxHeartbeats 8000000 in
set_option maxRecDepth 100000 in
theorem laws_heldExpS.calls (k : Nat) : ∀ (A0 : Option Addr) (c0 : Nat) (l0 : List (S28)) (a1 : Int) (r : Int) (w : World) (hr0 : Kd.C k28 w A0 l0.length l0) (hc0 : l0.length ≤ c0) (h : laws_heldExpS.f k l0 a1 = some r),
  Calls Try.prog 41 #[.slice A0 l0.length c0, .int .i64 a1] w fun e w' => e = .returned (.int .i64 r) ∧ Below w.heap.size w w' := by
 induction k using Nat.strongRecOn with
 | _ k ih =>
 intro A0 c0 l0 a1 r w hr0 hc0 h
 cases k with
 | zero => exact absurd h (by simp [laws_heldExpS.f])
 | succ k =>
 simp only [laws_heldExpS.f] at h
 have HR0 := Aside0.mk hr0
 have HC0 := Aside0.mk hc0
 clear hr0 hc0
 have HB := Aside0.mk (Below.refl w.heap.size w)
 have H : (laws_heldExpS.l0 k l0 a1 0) = some r := h
 clear h
 have H' := Aside0.mk H
 clear H
 go_enter Try.func41, Try.ntmps41
 go_wp2
 go_loopg [1, 5] k (fun kq v1 v5 w' => ∃ (x1_1 : Int) (x5_1 : Int), v1 = .int .i64 x1_1 ∧ v5 = .int .i64 x5_1 ∧ Aside0 (laws_heldExpS.l0 kq l0 x1_1 x5_1 = some r) ∧ Aside0 (kq ≤ k) ∧ Aside0 (Below w.heap.size w w'))
 case atStart => exact ⟨(a1), (0), rs_, rs_, H', ⟨Nat.le_refl _⟩, ⟨bb_⟩⟩
 case round =>
  clear H'
  try clear p2
  obtain ⟨x1_1, x5_1, rfl, rfl, HA, HK1, HB⟩ := hrel
  cases gk with
  | zero => exact absurd HA.out (by simp [laws_heldExpS.l0])
  | succ k1 =>
   have H := HA.out
   clear HA
   simp only [laws_heldExpS.l0] at H
   by_cases c3 : x5_1 < (l0.length : Int)
   ·rw [if_pos c3] at H
    have c3b0 : decide (x5_1 < (l0.length : Int)) = true := decide_eq_true c3
    clear c3
    by_cases c4 : 0 ≤ x5_1
    ·rw [if_pos c4] at H
     have c4b0 : decide (0 ≤ x5_1) = true := decide_eq_true c4
     clear c4
     by_cases c5 : ((rd_T28 l0 x5_1).f0) = x1_1
     ·rw [if_pos c5] at H
      have c5b0 : (((rd_T28 l0 x5_1).f0) == x1_1) = true := beq_iff_eq.mpr c5
      have c5b1 : (((rd_T28 l0 x5_1).f0) != x1_1) = false := bne_eq_false_iff_eq.mpr c5
      clear c5
      by_cases c6 : ((rd_T28 l0 x5_1).f1) = (wrap64 (x1_1 + 1))
      ·rw [if_pos c6] at H
       have c6b0 : (((rd_T28 l0 x5_1).f1) == (wrap64 (x1_1 + 1))) = true := beq_iff_eq.mpr c6
       have c6b1 : (((rd_T28 l0 x5_1).f1) != (wrap64 (x1_1 + 1))) = false := bne_eq_false_iff_eq.mpr c6
       clear c6
       by_cases c7 : ((rd_T28 l0 x5_1).f2.f0) = (wrap64 ((wrap64 (x1_1 + 1)) + 1))
       ·rw [if_pos c7] at H
        have c7b0 : (((rd_T28 l0 x5_1).f2.f0) == (wrap64 ((wrap64 (x1_1 + 1)) + 1))) = true := beq_iff_eq.mpr c7
        have c7b1 : (((rd_T28 l0 x5_1).f2.f0) != (wrap64 ((wrap64 (x1_1 + 1)) + 1))) = false := bne_eq_false_iff_eq.mpr c7
        clear c7
        by_cases c8 : ((rd_T28 l0 x5_1).f2.f1) = (wrap64 ((wrap64 ((wrap64 (x1_1 + 1)) + 1)) + 1))
        ·rw [if_pos c8] at H
         have c8b0 : (((rd_T28 l0 x5_1).f2.f1) == (wrap64 ((wrap64 ((wrap64 (x1_1 + 1)) + 1)) + 1))) = true := beq_iff_eq.mpr c8
         have c8b1 : (((rd_T28 l0 x5_1).f2.f1) != (wrap64 ((wrap64 ((wrap64 (x1_1 + 1)) + 1)) + 1))) = false := bne_eq_false_iff_eq.mpr c8
         clear c8
         replace H := Option.bind_eq_some_iff.mp H
         obtain ⟨t353, A90, H⟩ := H
         replace H : (if ((rd_T28 l0 x5_1).f2.f2).toList = t353.toList then ((laws_markText.f k1 (wrap64 ((wrap64 ((wrap64 ((wrap64 ((wrap64 (x1_1 + 1)) + 1)) + 1)) + 1)) + 1))).bind fun t355 => (if ((rd_T28 l0 x5_1).f3).toList = t355.toList then ((laws_heldExpS.f k1 ((rd_T28 l0 x5_1).f4) (wrap64 ((wrap64 ((wrap64 ((wrap64 ((wrap64 ((wrap64 (x1_1 + 1)) + 1)) + 1)) + 1)) + 1)) + 1))).bind fun t357 => (if t357 < 0 then (some (-1)) else (laws_heldExpS.l0 k1 l0 t357 (wrap64 (x5_1 + 1))))) else (some (-1)))) else (some (-1))) = some r := H
         have A9 := Aside0.mk A90
         clear A90
         by_cases c10 : ((rd_T28 l0 x5_1).f2.f2).toList = t353.toList
         ·rw [if_pos c10] at H
          have c10b0 : (((rd_T28 l0 x5_1).f2.f2).toList == t353.toList) = true := beq_iff_eq.mpr c10
          have c10b1 : (((rd_T28 l0 x5_1).f2.f2).toList != t353.toList) = false := bne_eq_false_iff_eq.mpr c10
          clear c10
          replace H := Option.bind_eq_some_iff.mp H
          obtain ⟨t355, A110, H⟩ := H
          replace H : (if ((rd_T28 l0 x5_1).f3).toList = t355.toList then ((laws_heldExpS.f k1 ((rd_T28 l0 x5_1).f4) (wrap64 ((wrap64 ((wrap64 ((wrap64 ((wrap64 ((wrap64 (x1_1 + 1)) + 1)) + 1)) + 1)) + 1)) + 1))).bind fun t357 => (if t357 < 0 then (some (-1)) else (laws_heldExpS.l0 k1 l0 t357 (wrap64 (x5_1 + 1))))) else (some (-1))) = some r := H
          have A11 := Aside0.mk A110
          clear A110
          by_cases c12 : ((rd_T28 l0 x5_1).f3).toList = t355.toList
          ·rw [if_pos c12] at H
           have c12b0 : (((rd_T28 l0 x5_1).f3).toList == t355.toList) = true := beq_iff_eq.mpr c12
           have c12b1 : (((rd_T28 l0 x5_1).f3).toList != t355.toList) = false := bne_eq_false_iff_eq.mpr c12
           clear c12
           replace H := Option.bind_eq_some_iff.mp H
           obtain ⟨t357, A130, H⟩ := H
           replace H : (if t357 < 0 then (some (-1)) else (laws_heldExpS.l0 k1 l0 t357 (wrap64 (x5_1 + 1)))) = some r := H
           have A13 := Aside0.mk A130
           clear A130
           by_cases c14 : t357 < 0
           ·rw [if_pos c14] at H
            have c14b0 : decide (t357 < 0) = true := decide_eq_true c14
            clear c14
            obtain rfl := Option.some.inj H
            have p348 : 0 ≤ (x5_1 : Int) := of_decide_eq_true (by first | (with_reducible assumption) | assumption)
            have q348 : x5_1 < (l0.length : Int) := of_decide_eq_true (by first | (with_reducible assumption) | assumption)
            obtain ⟨ad348, A348_6, c348_6, e348, hx348_0, hx348_1, hx348_2, hx348_3, hx348_4, hx348_5, hx348_6, hl348_6, hi348_6⟩ := at_T28 HR0.out x5_1 p348 q348
            cases e348
            replace hx348_0 := hb_ HB hx348_0
            replace hx348_1 := hb_ HB hx348_1
            replace hx348_2 := hb_ HB hx348_2
            replace hx348_3 := hb_ HB hx348_3
            replace hx348_4 := hb_ HB hx348_4
            replace hx348_5 := hb_ HB hx348_5
            replace hx348_6 := hb_ HB hx348_6
            have HR348_6 := Aside0.mk hi348_6
            have HC348_6 := Aside0.mk hl348_6
            clear hi348_6 hl348_6
            replace p348 := eq_true p348
            replace q348 := eq_true q348
            have p349 : 0 ≤ (x5_1 : Int) := of_decide_eq_true (by first | (with_reducible assumption) | assumption)
            have q349 : x5_1 < (l0.length : Int) := of_decide_eq_true (by first | (with_reducible assumption) | assumption)
            obtain ⟨ad349, A349_6, c349_6, e349, hx349_0, hx349_1, hx349_2, hx349_3, hx349_4, hx349_5, hx349_6, hl349_6, hi349_6⟩ := at_T28 HR0.out x5_1 p349 q349
            obtain rfl : ad348 = ad349 := (by injection e349)
            replace hx349_0 := hb_ HB hx349_0
            replace hx349_1 := hb_ HB hx349_1
            replace hx349_2 := hb_ HB hx349_2
            replace hx349_3 := hb_ HB hx349_3
            replace hx349_4 := hb_ HB hx349_4
            replace hx349_5 := hb_ HB hx349_5
            replace hx349_6 := hb_ HB hx349_6
            have HR349_6 := Aside0.mk hi349_6
            have HC349_6 := Aside0.mk hl349_6
            clear hi349_6 hl349_6
            replace p349 := eq_true p349
            replace q349 := eq_true q349
            have ea_ := Option.some.inj (hx348_6.symm.trans hx349_6)
            injection ea_ with ea_ en_ ec_
            subst ea_
            subst ec_
            clear en_
            have p350 : 0 ≤ (x5_1 : Int) := of_decide_eq_true (by first | (with_reducible assumption) | assumption)
            have q350 : x5_1 < (l0.length : Int) := of_decide_eq_true (by first | (with_reducible assumption) | assumption)
            obtain ⟨ad350, A350_6, c350_6, e350, hx350_0, hx350_1, hx350_2, hx350_3, hx350_4, hx350_5, hx350_6, hl350_6, hi350_6⟩ := at_T28 HR0.out x5_1 p350 q350
            obtain rfl : ad348 = ad350 := (by injection e350)
            replace hx350_0 := hb_ HB hx350_0
            replace hx350_1 := hb_ HB hx350_1
            replace hx350_2 := hb_ HB hx350_2
            replace hx350_3 := hb_ HB hx350_3
            replace hx350_4 := hb_ HB hx350_4
            replace hx350_5 := hb_ HB hx350_5
            replace hx350_6 := hb_ HB hx350_6
            have HR350_6 := Aside0.mk hi350_6
            have HC350_6 := Aside0.mk hl350_6
            clear hi350_6 hl350_6
            replace p350 := eq_true p350
            replace q350 := eq_true q350
            have ea_ := Option.some.inj (hx348_6.symm.trans hx350_6)
            injection ea_ with ea_ en_ ec_
            subst ea_
            subst ec_
            clear en_
            have p351 : 0 ≤ (x5_1 : Int) := of_decide_eq_true (by first | (with_reducible assumption) | assumption)
            have q351 : x5_1 < (l0.length : Int) := of_decide_eq_true (by first | (with_reducible assumption) | assumption)
            obtain ⟨ad351, A351_6, c351_6, e351, hx351_0, hx351_1, hx351_2, hx351_3, hx351_4, hx351_5, hx351_6, hl351_6, hi351_6⟩ := at_T28 HR0.out x5_1 p351 q351
            obtain rfl : ad348 = ad351 := (by injection e351)
            replace hx351_0 := hb_ HB hx351_0
            replace hx351_1 := hb_ HB hx351_1
            replace hx351_2 := hb_ HB hx351_2
            replace hx351_3 := hb_ HB hx351_3
            replace hx351_4 := hb_ HB hx351_4
            replace hx351_5 := hb_ HB hx351_5
            replace hx351_6 := hb_ HB hx351_6
            have HR351_6 := Aside0.mk hi351_6
            have HC351_6 := Aside0.mk hl351_6
            clear hi351_6 hl351_6
            replace p351 := eq_true p351
            replace q351 := eq_true q351
            have ea_ := Option.some.inj (hx348_6.symm.trans hx351_6)
            injection ea_ with ea_ en_ ec_
            subst ea_
            subst ec_
            clear en_
            try go_wp2
            replace HB := Aside0.mk (below_drew1 HB.out)
            have p352 : 0 ≤ (x5_1 : Int) := of_decide_eq_true (by first | (with_reducible assumption) | assumption)
            have q352 : x5_1 < (l0.length : Int) := of_decide_eq_true (by first | (with_reducible assumption) | assumption)
            obtain ⟨ad352, A352_6, c352_6, e352, hx352_0, hx352_1, hx352_2, hx352_3, hx352_4, hx352_5, hx352_6, hl352_6, hi352_6⟩ := at_T28 HR0.out x5_1 p352 q352
            have hw352_6 := hx352_6
            have hw352_5 := hx352_5
            have hw352_4 := hx352_4
            have hw352_3 := hx352_3
            have hw352_2 := hx352_2
            have hw352_1 := hx352_1
            have hw352_0 := hx352_0
            obtain rfl : ad348 = ad352 := (by injection e352)
            (try (have ea_ := Option.some.inj (hx352_6.symm.trans hw351_6); injection ea_ with ea_ en_ ec_; subst ea_; subst ec_; clear en_))
            replace hx352_0 := hb_ HB hx352_0
            replace hx352_1 := hb_ HB hx352_1
            replace hx352_2 := hb_ HB hx352_2
            replace hx352_3 := hb_ HB hx352_3
            replace hx352_4 := hb_ HB hx352_4
            replace hx352_5 := hb_ HB hx352_5
            replace hx352_6 := hb_ HB hx352_6
            have HR352_6 := Aside0.mk hi352_6
            have HC352_6 := Aside0.mk hl352_6
            clear hi352_6 hl352_6
            replace p352 := eq_true p352
            replace q352 := eq_true q352
            refine start_ (n := 9) (S := fun w' => w'.cell? (ad348.add ((x5_1).toNat * 7)) = some (.int .i64 ((rd_T28 l0 x5_1).f0)) ∧ w'.cell? ⟨(ad348.add ((x5_1).toNat * 7)).block, (ad348.add ((x5_1).toNat * 7)).off + 1, none⟩ = some (.int .i64 ((rd_T28 l0 x5_1).f1)) ∧ w'.cell? ⟨(ad348.add ((x5_1).toNat * 7)).block, (ad348.add ((x5_1).toNat * 7)).off + 2, none⟩ = some (.int .i64 ((rd_T28 l0 x5_1).f2.f0)) ∧ w'.cell? ⟨(ad348.add ((x5_1).toNat * 7)).block, (ad348.add ((x5_1).toNat * 7)).off + 3, none⟩ = some (.int .i64 ((rd_T28 l0 x5_1).f2.f1)) ∧ w'.cell? ⟨(ad348.add ((x5_1).toNat * 7)).block, (ad348.add ((x5_1).toNat * 7)).off + 4, none⟩ = some (.string ((rd_T28 l0 x5_1).f2.f2)) ∧ w'.cell? ⟨(ad348.add ((x5_1).toNat * 7)).block, (ad348.add ((x5_1).toNat * 7)).off + 5, none⟩ = some (.string ((rd_T28 l0 x5_1).f3)) ∧ w'.cell? ⟨(ad348.add ((x5_1).toNat * 7)).block, (ad348.add ((x5_1).toNat * 7)).off + 6, none⟩ = some (.slice A352_6 ((rd_T28 l0 x5_1).f4).length c352_6)) (ds := []) (tf 0 9) (by kernel_rfl) rfl rfl ⟨(hb_ HB hw352_0), (hb_ HB hw352_1), (hb_ HB hw352_2), (hb_ HB hw352_3), (hb_ HB hw352_4), (hb_ HB hw352_5), (hb_ HB hw352_6)⟩ (fun hHeld => ?_); refine with_tabW laws_heldExpS.tab16 laws_heldExpS.bits16 (fun HT_ HW_ => ?_)
            generalize wr.drew = w15 at HB HR352_6 hx352_0 hx352_1 hx352_2 hx352_3 hx352_4 hx352_5 hx352_6 hHeld ⊢
            iterate 5 (refine pl_ ?_)
            refine plx_ 6 #[true, true, true, true, true, false, true, false, false] ?_
            refine tlx_ 5 (tf 7 2) ?_
            refine one_ (i := 7) (N := some 57) (tf 8 1) rfl rfl (one_of HT_.out (by kernel_rfl)) (by decide) (fun K hK => ?_)
            refine gs_ Try.func40 #[.int .i64 (wrap64 ((wrap64 ((wrap64 ((wrap64 (x1_1 + 1)) + 1)) + 1)) + 1))] ?_
            with_reducible refine (laws_markText.calls k1 (wrap64 ((wrap64 ((wrap64 ((wrap64 (x1_1 + 1)) + 1)) + 1)) + 1)) t353 _ A9.out).mono ?_
            rintro e w16 ⟨rfl, hb⟩
            refine ⟨_, rfl, ?_⟩
            replace HB := bs_ hb
            (try clear hb)
            (try clear hb2)
            (try clear hk)
            (try clear hi)
            refine hK.out _ _ ⟨(have h_ := hb_ HB hw352_0; h_), (have h_ := hb_ HB hw352_1; h_), (have h_ := hb_ HB hw352_2; h_), (have h_ := hb_ HB hw352_3; h_), (have h_ := hb_ HB hw352_4; h_), (have h_ := hb_ HB hw352_5; h_), (have h_ := hb_ HB hw352_6; h_)⟩ (fun hHeld => ?_)
            clear hK K
            refine nm_ ?_
            refine plx_ 8 (tf 9 0) ?_
            refine done_ (done_of HT_.out (by kernel_rfl)) ?_
            try go_wp2
            replace HB := Aside0.mk (below_drew1 HB.out)
            have p354 : 0 ≤ (x5_1 : Int) := of_decide_eq_true (by first | (with_reducible assumption) | assumption)
            have q354 : x5_1 < (l0.length : Int) := of_decide_eq_true (by first | (with_reducible assumption) | assumption)
            obtain ⟨ad354, A354_6, c354_6, e354, hx354_0, hx354_1, hx354_2, hx354_3, hx354_4, hx354_5, hx354_6, hl354_6, hi354_6⟩ := at_T28 HR0.out x5_1 p354 q354
            have hw354_6 := hx354_6
            have hw354_5 := hx354_5
            have hw354_4 := hx354_4
            have hw354_3 := hx354_3
            have hw354_2 := hx354_2
            have hw354_1 := hx354_1
            have hw354_0 := hx354_0
            obtain rfl : ad348 = ad354 := (by injection e354)
            (try (have ea_ := Option.some.inj (hx354_6.symm.trans hw352_6); injection ea_ with ea_ en_ ec_; subst ea_; subst ec_; clear en_))
            replace hx354_0 := hb_ HB hx354_0
            replace hx354_1 := hb_ HB hx354_1
            replace hx354_2 := hb_ HB hx354_2
            replace hx354_3 := hb_ HB hx354_3
            replace hx354_4 := hb_ HB hx354_4
            replace hx354_5 := hb_ HB hx354_5
            replace hx354_6 := hb_ HB hx354_6
            have HR354_6 := Aside0.mk hi354_6
            have HC354_6 := Aside0.mk hl354_6
            clear hi354_6 hl354_6
            replace p354 := eq_true p354
            replace q354 := eq_true q354
            refine start_ (n := 8) (S := fun w' => w'.cell? (ad348.add ((x5_1).toNat * 7)) = some (.int .i64 ((rd_T28 l0 x5_1).f0)) ∧ w'.cell? ⟨(ad348.add ((x5_1).toNat * 7)).block, (ad348.add ((x5_1).toNat * 7)).off + 1, none⟩ = some (.int .i64 ((rd_T28 l0 x5_1).f1)) ∧ w'.cell? ⟨(ad348.add ((x5_1).toNat * 7)).block, (ad348.add ((x5_1).toNat * 7)).off + 2, none⟩ = some (.int .i64 ((rd_T28 l0 x5_1).f2.f0)) ∧ w'.cell? ⟨(ad348.add ((x5_1).toNat * 7)).block, (ad348.add ((x5_1).toNat * 7)).off + 3, none⟩ = some (.int .i64 ((rd_T28 l0 x5_1).f2.f1)) ∧ w'.cell? ⟨(ad348.add ((x5_1).toNat * 7)).block, (ad348.add ((x5_1).toNat * 7)).off + 4, none⟩ = some (.string ((rd_T28 l0 x5_1).f2.f2)) ∧ w'.cell? ⟨(ad348.add ((x5_1).toNat * 7)).block, (ad348.add ((x5_1).toNat * 7)).off + 5, none⟩ = some (.string ((rd_T28 l0 x5_1).f3)) ∧ w'.cell? ⟨(ad348.add ((x5_1).toNat * 7)).block, (ad348.add ((x5_1).toNat * 7)).off + 6, none⟩ = some (.slice A354_6 ((rd_T28 l0 x5_1).f4).length c354_6)) (ds := []) (tf 0 8) (by kernel_rfl) rfl rfl ⟨(hb_ HB hw354_0), (hb_ HB hw354_1), (hb_ HB hw354_2), (hb_ HB hw354_3), (hb_ HB hw354_4), (hb_ HB hw354_5), (hb_ HB hw354_6)⟩ (fun hHeld => ?_); refine with_tabW laws_heldExpS.tab19 laws_heldExpS.bits19 (fun HT_ HW_ => ?_)
            generalize w16.drew = w17 at HB HR354_6 hx354_0 hx354_1 hx354_2 hx354_3 hx354_4 hx354_5 hx354_6 hHeld ⊢
            iterate 4 (refine pl_ ?_)
            refine plx_ 5 #[true, true, true, true, false, true, false, false] ?_
            refine tlx_ 4 (tf 6 2) ?_
            refine one_ (i := 6) (N := some 67) (tf 7 1) rfl rfl (one_of HT_.out (by kernel_rfl)) (by decide) (fun K hK => ?_)
            refine gs_ Try.func40 #[.int .i64 (wrap64 ((wrap64 ((wrap64 ((wrap64 ((wrap64 (x1_1 + 1)) + 1)) + 1)) + 1)) + 1))] ?_
            with_reducible refine (laws_markText.calls k1 (wrap64 ((wrap64 ((wrap64 ((wrap64 ((wrap64 (x1_1 + 1)) + 1)) + 1)) + 1)) + 1)) t355 _ A11.out).mono ?_
            rintro e w18 ⟨rfl, hb⟩
            refine ⟨_, rfl, ?_⟩
            replace HB := bs_ hb
            (try clear hb)
            (try clear hb2)
            (try clear hk)
            (try clear hi)
            refine hK.out _ _ ⟨(have h_ := hb_ HB hw354_0; h_), (have h_ := hb_ HB hw354_1; h_), (have h_ := hb_ HB hw354_2; h_), (have h_ := hb_ HB hw354_3; h_), (have h_ := hb_ HB hw354_4; h_), (have h_ := hb_ HB hw354_5; h_), (have h_ := hb_ HB hw354_6; h_)⟩ (fun hHeld => ?_)
            clear hK K
            refine nm_ ?_
            refine plx_ 7 (tf 8 0) ?_
            refine done_ (done_of HT_.out (by kernel_rfl)) ?_
            have p356 : 0 ≤ (x5_1 : Int) := of_decide_eq_true (by first | (with_reducible assumption) | assumption)
            have q356 : x5_1 < (l0.length : Int) := of_decide_eq_true (by first | (with_reducible assumption) | assumption)
            obtain ⟨ad356, A356_6, c356_6, e356, hx356_0, hx356_1, hx356_2, hx356_3, hx356_4, hx356_5, hx356_6, hl356_6, hi356_6⟩ := at_T28 HR0.out x5_1 p356 q356
            obtain rfl : ad348 = ad356 := (by injection e356)
            (try (have ea_ := Option.some.inj (hx356_6.symm.trans hw354_6); injection ea_ with ea_ en_ ec_; subst ea_; subst ec_; clear en_))
            replace hx356_0 := hb_ HB hx356_0
            replace hx356_1 := hb_ HB hx356_1
            replace hx356_2 := hb_ HB hx356_2
            replace hx356_3 := hb_ HB hx356_3
            replace hx356_4 := hb_ HB hx356_4
            replace hx356_5 := hb_ HB hx356_5
            replace hx356_6 := hb_ HB hx356_6
            have HR356_6 := Aside0.mk hi356_6
            have HC356_6 := Aside0.mk hl356_6
            clear hi356_6 hl356_6
            replace p356 := eq_true p356
            replace q356 := eq_true q356
            try go_wp2_with (first | ((with_reducible refine gate_callee (f := 41) rfl ?_); refine gsL_ (some 77) Try.func41 #[.slice A356_6 ((rd_T28 l0 x5_1).f4).length c356_6, .int .i64 (wrap64 ((wrap64 ((wrap64 ((wrap64 ((wrap64 ((wrap64 (x1_1 + 1)) + 1)) + 1)) + 1)) + 1)) + 1))] ?_; (with_reducible refine (ih k1 (by have := HK1.out; omega) _ _ ((rd_T28 l0 x5_1).f4) (wrap64 ((wrap64 ((wrap64 ((wrap64 ((wrap64 ((wrap64 (x1_1 + 1)) + 1)) + 1)) + 1)) + 1)) + 1)) t357 _ ?side1 ?side2 A13.out).mono ?_); (case side1 => exact ck_ (Kd.C_below HR356_6.out HB.out)); (case side2 => exact HC356_6.out); rintro e w19 ⟨rfl, hb⟩; refine ⟨_, rfl, ?_⟩; replace HB := bs_ hb; (try clear hb); (try clear hb2); (try clear hk); (try clear hi)))
            go_ret
            exact ⟨er_, bb_⟩
           ·rw [if_neg c14] at H
            have c14b0 : decide (t357 < 0) = false := decide_eq_false c14
            clear c14
            have H' := Aside0.mk H
            clear H
            have p348 : 0 ≤ (x5_1 : Int) := of_decide_eq_true (by first | (with_reducible assumption) | assumption)
            have q348 : x5_1 < (l0.length : Int) := of_decide_eq_true (by first | (with_reducible assumption) | assumption)
            obtain ⟨ad348, A348_6, c348_6, e348, hx348_0, hx348_1, hx348_2, hx348_3, hx348_4, hx348_5, hx348_6, hl348_6, hi348_6⟩ := at_T28 HR0.out x5_1 p348 q348
            cases e348
            (try (have ea_ := Option.some.inj (hx348_6.symm.trans hw356_6); injection ea_ with ea_ en_ ec_; subst ea_; subst ec_; clear en_))
            replace hx348_0 := hb_ HB hx348_0
            replace hx348_1 := hb_ HB hx348_1
            replace hx348_2 := hb_ HB hx348_2
            replace hx348_3 := hb_ HB hx348_3
            replace hx348_4 := hb_ HB hx348_4
            replace hx348_5 := hb_ HB hx348_5
            replace hx348_6 := hb_ HB hx348_6
            have HR348_6 := Aside0.mk hi348_6
            have HC348_6 := Aside0.mk hl348_6
            clear hi348_6 hl348_6
            replace p348 := eq_true p348
            replace q348 := eq_true q348
            have p349 : 0 ≤ (x5_1 : Int) := of_decide_eq_true (by first | (with_reducible assumption) | assumption)
            have q349 : x5_1 < (l0.length : Int) := of_decide_eq_true (by first | (with_reducible assumption) | assumption)
            obtain ⟨ad349, A349_6, c349_6, e349, hx349_0, hx349_1, hx349_2, hx349_3, hx349_4, hx349_5, hx349_6, hl349_6, hi349_6⟩ := at_T28 HR0.out x5_1 p349 q349
            obtain rfl : ad348 = ad349 := (by injection e349)
            replace hx349_0 := hb_ HB hx349_0
            replace hx349_1 := hb_ HB hx349_1
            replace hx349_2 := hb_ HB hx349_2
            replace hx349_3 := hb_ HB hx349_3
            replace hx349_4 := hb_ HB hx349_4
            replace hx349_5 := hb_ HB hx349_5
            replace hx349_6 := hb_ HB hx349_6
            have HR349_6 := Aside0.mk hi349_6
            have HC349_6 := Aside0.mk hl349_6
            clear hi349_6 hl349_6
            replace p349 := eq_true p349
            replace q349 := eq_true q349
            have ea_ := Option.some.inj (hx348_6.symm.trans hx349_6)
            injection ea_ with ea_ en_ ec_
            subst ea_
            subst ec_
            clear en_
            have p350 : 0 ≤ (x5_1 : Int) := of_decide_eq_true (by first | (with_reducible assumption) | assumption)
            have q350 : x5_1 < (l0.length : Int) := of_decide_eq_true (by first | (with_reducible assumption) | assumption)
            obtain ⟨ad350, A350_6, c350_6, e350, hx350_0, hx350_1, hx350_2, hx350_3, hx350_4, hx350_5, hx350_6, hl350_6, hi350_6⟩ := at_T28 HR0.out x5_1 p350 q350
            obtain rfl : ad348 = ad350 := (by injection e350)
            replace hx350_0 := hb_ HB hx350_0
            replace hx350_1 := hb_ HB hx350_1
            replace hx350_2 := hb_ HB hx350_2
            replace hx350_3 := hb_ HB hx350_3
            replace hx350_4 := hb_ HB hx350_4
            replace hx350_5 := hb_ HB hx350_5
            replace hx350_6 := hb_ HB hx350_6
            have HR350_6 := Aside0.mk hi350_6
            have HC350_6 := Aside0.mk hl350_6
            clear hi350_6 hl350_6
            replace p350 := eq_true p350
            replace q350 := eq_true q350
            have ea_ := Option.some.inj (hx348_6.symm.trans hx350_6)
            injection ea_ with ea_ en_ ec_
            subst ea_
            subst ec_
            clear en_
            have p351 : 0 ≤ (x5_1 : Int) := of_decide_eq_true (by first | (with_reducible assumption) | assumption)
            have q351 : x5_1 < (l0.length : Int) := of_decide_eq_true (by first | (with_reducible assumption) | assumption)
            obtain ⟨ad351, A351_6, c351_6, e351, hx351_0, hx351_1, hx351_2, hx351_3, hx351_4, hx351_5, hx351_6, hl351_6, hi351_6⟩ := at_T28 HR0.out x5_1 p351 q351
            obtain rfl : ad348 = ad351 := (by injection e351)
            replace hx351_0 := hb_ HB hx351_0
            replace hx351_1 := hb_ HB hx351_1
            replace hx351_2 := hb_ HB hx351_2
            replace hx351_3 := hb_ HB hx351_3
            replace hx351_4 := hb_ HB hx351_4
            replace hx351_5 := hb_ HB hx351_5
            replace hx351_6 := hb_ HB hx351_6
            have HR351_6 := Aside0.mk hi351_6
            have HC351_6 := Aside0.mk hl351_6
            clear hi351_6 hl351_6
            replace p351 := eq_true p351
            replace q351 := eq_true q351
            have ea_ := Option.some.inj (hx348_6.symm.trans hx351_6)
            injection ea_ with ea_ en_ ec_
            subst ea_
            subst ec_
            clear en_
            try go_wp2
            replace HB := Aside0.mk (below_drew1 HB.out)
            have p352 : 0 ≤ (x5_1 : Int) := of_decide_eq_true (by first | (with_reducible assumption) | assumption)
            have q352 : x5_1 < (l0.length : Int) := of_decide_eq_true (by first | (with_reducible assumption) | assumption)
            obtain ⟨ad352, A352_6, c352_6, e352, hx352_0, hx352_1, hx352_2, hx352_3, hx352_4, hx352_5, hx352_6, hl352_6, hi352_6⟩ := at_T28 HR0.out x5_1 p352 q352
            have hw352_6 := hx352_6
            have hw352_5 := hx352_5
            have hw352_4 := hx352_4
            have hw352_3 := hx352_3
            have hw352_2 := hx352_2
            have hw352_1 := hx352_1
            have hw352_0 := hx352_0
            obtain rfl : ad348 = ad352 := (by injection e352)
            (try (have ea_ := Option.some.inj (hx352_6.symm.trans hw351_6); injection ea_ with ea_ en_ ec_; subst ea_; subst ec_; clear en_))
            replace hx352_0 := hb_ HB hx352_0
            replace hx352_1 := hb_ HB hx352_1
            replace hx352_2 := hb_ HB hx352_2
            replace hx352_3 := hb_ HB hx352_3
            replace hx352_4 := hb_ HB hx352_4
            replace hx352_5 := hb_ HB hx352_5
            replace hx352_6 := hb_ HB hx352_6
            have HR352_6 := Aside0.mk hi352_6
            have HC352_6 := Aside0.mk hl352_6
            clear hi352_6 hl352_6
            replace p352 := eq_true p352
            replace q352 := eq_true q352
            refine start_ (n := 9) (S := fun w' => w'.cell? (ad348.add ((x5_1).toNat * 7)) = some (.int .i64 ((rd_T28 l0 x5_1).f0)) ∧ w'.cell? ⟨(ad348.add ((x5_1).toNat * 7)).block, (ad348.add ((x5_1).toNat * 7)).off + 1, none⟩ = some (.int .i64 ((rd_T28 l0 x5_1).f1)) ∧ w'.cell? ⟨(ad348.add ((x5_1).toNat * 7)).block, (ad348.add ((x5_1).toNat * 7)).off + 2, none⟩ = some (.int .i64 ((rd_T28 l0 x5_1).f2.f0)) ∧ w'.cell? ⟨(ad348.add ((x5_1).toNat * 7)).block, (ad348.add ((x5_1).toNat * 7)).off + 3, none⟩ = some (.int .i64 ((rd_T28 l0 x5_1).f2.f1)) ∧ w'.cell? ⟨(ad348.add ((x5_1).toNat * 7)).block, (ad348.add ((x5_1).toNat * 7)).off + 4, none⟩ = some (.string ((rd_T28 l0 x5_1).f2.f2)) ∧ w'.cell? ⟨(ad348.add ((x5_1).toNat * 7)).block, (ad348.add ((x5_1).toNat * 7)).off + 5, none⟩ = some (.string ((rd_T28 l0 x5_1).f3)) ∧ w'.cell? ⟨(ad348.add ((x5_1).toNat * 7)).block, (ad348.add ((x5_1).toNat * 7)).off + 6, none⟩ = some (.slice A352_6 ((rd_T28 l0 x5_1).f4).length c352_6)) (ds := []) (tf 0 9) (by kernel_rfl) rfl rfl ⟨(hb_ HB hw352_0), (hb_ HB hw352_1), (hb_ HB hw352_2), (hb_ HB hw352_3), (hb_ HB hw352_4), (hb_ HB hw352_5), (hb_ HB hw352_6)⟩ (fun hHeld => ?_); refine with_tabW laws_heldExpS.tab16 laws_heldExpS.bits16 (fun HT_ HW_ => ?_)
            generalize wr.drew = w20 at HB HR352_6 hx352_0 hx352_1 hx352_2 hx352_3 hx352_4 hx352_5 hx352_6 hHeld ⊢
            iterate 5 (refine pl_ ?_)
            refine plx_ 6 #[true, true, true, true, true, false, true, false, false] ?_
            refine tlx_ 5 (tf 7 2) ?_
            refine one_ (i := 7) (N := some 57) (tf 8 1) rfl rfl (one_of HT_.out (by kernel_rfl)) (by decide) (fun K hK => ?_)
            refine gs_ Try.func40 #[.int .i64 (wrap64 ((wrap64 ((wrap64 ((wrap64 (x1_1 + 1)) + 1)) + 1)) + 1))] ?_
            with_reducible refine (laws_markText.calls k1 (wrap64 ((wrap64 ((wrap64 ((wrap64 (x1_1 + 1)) + 1)) + 1)) + 1)) t353 _ A9.out).mono ?_
            rintro e w21 ⟨rfl, hb⟩
            refine ⟨_, rfl, ?_⟩
            replace HB := bs_ hb
            (try clear hb)
            (try clear hb2)
            (try clear hk)
            (try clear hi)
            refine hK.out _ _ ⟨(have h_ := hb_ HB hw352_0; h_), (have h_ := hb_ HB hw352_1; h_), (have h_ := hb_ HB hw352_2; h_), (have h_ := hb_ HB hw352_3; h_), (have h_ := hb_ HB hw352_4; h_), (have h_ := hb_ HB hw352_5; h_), (have h_ := hb_ HB hw352_6; h_)⟩ (fun hHeld => ?_)
            clear hK K
            refine nm_ ?_
            refine plx_ 8 (tf 9 0) ?_
            refine done_ (done_of HT_.out (by kernel_rfl)) ?_
            try go_wp2
            replace HB := Aside0.mk (below_drew1 HB.out)
            have p354 : 0 ≤ (x5_1 : Int) := of_decide_eq_true (by first | (with_reducible assumption) | assumption)
            have q354 : x5_1 < (l0.length : Int) := of_decide_eq_true (by first | (with_reducible assumption) | assumption)
            obtain ⟨ad354, A354_6, c354_6, e354, hx354_0, hx354_1, hx354_2, hx354_3, hx354_4, hx354_5, hx354_6, hl354_6, hi354_6⟩ := at_T28 HR0.out x5_1 p354 q354
            have hw354_6 := hx354_6
            have hw354_5 := hx354_5
            have hw354_4 := hx354_4
            have hw354_3 := hx354_3
            have hw354_2 := hx354_2
            have hw354_1 := hx354_1
            have hw354_0 := hx354_0
            obtain rfl : ad348 = ad354 := (by injection e354)
            (try (have ea_ := Option.some.inj (hx354_6.symm.trans hw352_6); injection ea_ with ea_ en_ ec_; subst ea_; subst ec_; clear en_))
            replace hx354_0 := hb_ HB hx354_0
            replace hx354_1 := hb_ HB hx354_1
            replace hx354_2 := hb_ HB hx354_2
            replace hx354_3 := hb_ HB hx354_3
            replace hx354_4 := hb_ HB hx354_4
            replace hx354_5 := hb_ HB hx354_5
            replace hx354_6 := hb_ HB hx354_6
            have HR354_6 := Aside0.mk hi354_6
            have HC354_6 := Aside0.mk hl354_6
            clear hi354_6 hl354_6
            replace p354 := eq_true p354
            replace q354 := eq_true q354
            refine start_ (n := 8) (S := fun w' => w'.cell? (ad348.add ((x5_1).toNat * 7)) = some (.int .i64 ((rd_T28 l0 x5_1).f0)) ∧ w'.cell? ⟨(ad348.add ((x5_1).toNat * 7)).block, (ad348.add ((x5_1).toNat * 7)).off + 1, none⟩ = some (.int .i64 ((rd_T28 l0 x5_1).f1)) ∧ w'.cell? ⟨(ad348.add ((x5_1).toNat * 7)).block, (ad348.add ((x5_1).toNat * 7)).off + 2, none⟩ = some (.int .i64 ((rd_T28 l0 x5_1).f2.f0)) ∧ w'.cell? ⟨(ad348.add ((x5_1).toNat * 7)).block, (ad348.add ((x5_1).toNat * 7)).off + 3, none⟩ = some (.int .i64 ((rd_T28 l0 x5_1).f2.f1)) ∧ w'.cell? ⟨(ad348.add ((x5_1).toNat * 7)).block, (ad348.add ((x5_1).toNat * 7)).off + 4, none⟩ = some (.string ((rd_T28 l0 x5_1).f2.f2)) ∧ w'.cell? ⟨(ad348.add ((x5_1).toNat * 7)).block, (ad348.add ((x5_1).toNat * 7)).off + 5, none⟩ = some (.string ((rd_T28 l0 x5_1).f3)) ∧ w'.cell? ⟨(ad348.add ((x5_1).toNat * 7)).block, (ad348.add ((x5_1).toNat * 7)).off + 6, none⟩ = some (.slice A354_6 ((rd_T28 l0 x5_1).f4).length c354_6)) (ds := []) (tf 0 8) (by kernel_rfl) rfl rfl ⟨(hb_ HB hw354_0), (hb_ HB hw354_1), (hb_ HB hw354_2), (hb_ HB hw354_3), (hb_ HB hw354_4), (hb_ HB hw354_5), (hb_ HB hw354_6)⟩ (fun hHeld => ?_); refine with_tabW laws_heldExpS.tab19 laws_heldExpS.bits19 (fun HT_ HW_ => ?_)
            generalize w21.drew = w22 at HB HR354_6 hx354_0 hx354_1 hx354_2 hx354_3 hx354_4 hx354_5 hx354_6 hHeld ⊢
            iterate 4 (refine pl_ ?_)
            refine plx_ 5 #[true, true, true, true, false, true, false, false] ?_
            refine tlx_ 4 (tf 6 2) ?_
            refine one_ (i := 6) (N := some 67) (tf 7 1) rfl rfl (one_of HT_.out (by kernel_rfl)) (by decide) (fun K hK => ?_)
            refine gs_ Try.func40 #[.int .i64 (wrap64 ((wrap64 ((wrap64 ((wrap64 ((wrap64 (x1_1 + 1)) + 1)) + 1)) + 1)) + 1))] ?_
            with_reducible refine (laws_markText.calls k1 (wrap64 ((wrap64 ((wrap64 ((wrap64 ((wrap64 (x1_1 + 1)) + 1)) + 1)) + 1)) + 1)) t355 _ A11.out).mono ?_
            rintro e w23 ⟨rfl, hb⟩
            refine ⟨_, rfl, ?_⟩
            replace HB := bs_ hb
            (try clear hb)
            (try clear hb2)
            (try clear hk)
            (try clear hi)
            refine hK.out _ _ ⟨(have h_ := hb_ HB hw354_0; h_), (have h_ := hb_ HB hw354_1; h_), (have h_ := hb_ HB hw354_2; h_), (have h_ := hb_ HB hw354_3; h_), (have h_ := hb_ HB hw354_4; h_), (have h_ := hb_ HB hw354_5; h_), (have h_ := hb_ HB hw354_6; h_)⟩ (fun hHeld => ?_)
            clear hK K
            refine nm_ ?_
            refine plx_ 7 (tf 8 0) ?_
            refine done_ (done_of HT_.out (by kernel_rfl)) ?_
            have p356 : 0 ≤ (x5_1 : Int) := of_decide_eq_true (by first | (with_reducible assumption) | assumption)
            have q356 : x5_1 < (l0.length : Int) := of_decide_eq_true (by first | (with_reducible assumption) | assumption)
            obtain ⟨ad356, A356_6, c356_6, e356, hx356_0, hx356_1, hx356_2, hx356_3, hx356_4, hx356_5, hx356_6, hl356_6, hi356_6⟩ := at_T28 HR0.out x5_1 p356 q356
            obtain rfl : ad348 = ad356 := (by injection e356)
            (try (have ea_ := Option.some.inj (hx356_6.symm.trans hw354_6); injection ea_ with ea_ en_ ec_; subst ea_; subst ec_; clear en_))
            replace hx356_0 := hb_ HB hx356_0
            replace hx356_1 := hb_ HB hx356_1
            replace hx356_2 := hb_ HB hx356_2
            replace hx356_3 := hb_ HB hx356_3
            replace hx356_4 := hb_ HB hx356_4
            replace hx356_5 := hb_ HB hx356_5
            replace hx356_6 := hb_ HB hx356_6
            have HR356_6 := Aside0.mk hi356_6
            have HC356_6 := Aside0.mk hl356_6
            clear hi356_6 hl356_6
            replace p356 := eq_true p356
            replace q356 := eq_true q356
            try go_wp2_with (first | ((with_reducible refine gate_callee (f := 41) rfl ?_); refine gsL_ (some 77) Try.func41 #[.slice A356_6 ((rd_T28 l0 x5_1).f4).length c356_6, .int .i64 (wrap64 ((wrap64 ((wrap64 ((wrap64 ((wrap64 ((wrap64 (x1_1 + 1)) + 1)) + 1)) + 1)) + 1)) + 1))] ?_; (with_reducible refine (ih k1 (by have := HK1.out; omega) _ _ ((rd_T28 l0 x5_1).f4) (wrap64 ((wrap64 ((wrap64 ((wrap64 ((wrap64 ((wrap64 (x1_1 + 1)) + 1)) + 1)) + 1)) + 1)) + 1)) t357 _ ?side1 ?side2 A13.out).mono ?_); (case side1 => exact ck_ (Kd.C_below HR356_6.out HB.out)); (case side2 => exact HC356_6.out); rintro e w24 ⟨rfl, hb⟩; refine ⟨_, rfl, ?_⟩; replace HB := bs_ hb; (try clear hb); (try clear hb2); (try clear hk); (try clear hi)))
            go_roundg k1
            case measure => have := HK1.out; omega
            case rel => exact ⟨(t357), (wrap64 (x5_1 + 1)), rs_, rs_, H', ⟨by have := HK1.out; omega⟩, ⟨bb_⟩⟩
          ·rw [if_neg c12] at H
           have c12b0 : (((rd_T28 l0 x5_1).f3).toList == t355.toList) = false := beq_eq_false_iff_ne.mpr c12
           have c12b1 : (((rd_T28 l0 x5_1).f3).toList != t355.toList) = true := bne_iff_ne.mpr c12
           obtain rfl := Option.some.inj H
           have p348 : 0 ≤ (x5_1 : Int) := of_decide_eq_true (by first | (with_reducible assumption) | assumption)
           have q348 : x5_1 < (l0.length : Int) := of_decide_eq_true (by first | (with_reducible assumption) | assumption)
           obtain ⟨ad348, A348_6, c348_6, e348, hx348_0, hx348_1, hx348_2, hx348_3, hx348_4, hx348_5, hx348_6, hl348_6, hi348_6⟩ := at_T28 HR0.out x5_1 p348 q348
           cases e348
           replace hx348_0 := hb_ HB hx348_0
           replace hx348_1 := hb_ HB hx348_1
           replace hx348_2 := hb_ HB hx348_2
           replace hx348_3 := hb_ HB hx348_3
           replace hx348_4 := hb_ HB hx348_4
           replace hx348_5 := hb_ HB hx348_5
           replace hx348_6 := hb_ HB hx348_6
           have HR348_6 := Aside0.mk hi348_6
           have HC348_6 := Aside0.mk hl348_6
           clear hi348_6 hl348_6
           replace p348 := eq_true p348
           replace q348 := eq_true q348
           have p349 : 0 ≤ (x5_1 : Int) := of_decide_eq_true (by first | (with_reducible assumption) | assumption)
           have q349 : x5_1 < (l0.length : Int) := of_decide_eq_true (by first | (with_reducible assumption) | assumption)
           obtain ⟨ad349, A349_6, c349_6, e349, hx349_0, hx349_1, hx349_2, hx349_3, hx349_4, hx349_5, hx349_6, hl349_6, hi349_6⟩ := at_T28 HR0.out x5_1 p349 q349
           obtain rfl : ad348 = ad349 := (by injection e349)
           replace hx349_0 := hb_ HB hx349_0
           replace hx349_1 := hb_ HB hx349_1
           replace hx349_2 := hb_ HB hx349_2
           replace hx349_3 := hb_ HB hx349_3
           replace hx349_4 := hb_ HB hx349_4
           replace hx349_5 := hb_ HB hx349_5
           replace hx349_6 := hb_ HB hx349_6
           have HR349_6 := Aside0.mk hi349_6
           have HC349_6 := Aside0.mk hl349_6
           clear hi349_6 hl349_6
           replace p349 := eq_true p349
           replace q349 := eq_true q349
           have ea_ := Option.some.inj (hx348_6.symm.trans hx349_6)
           injection ea_ with ea_ en_ ec_
           subst ea_
           subst ec_
           clear en_
           have p350 : 0 ≤ (x5_1 : Int) := of_decide_eq_true (by first | (with_reducible assumption) | assumption)
           have q350 : x5_1 < (l0.length : Int) := of_decide_eq_true (by first | (with_reducible assumption) | assumption)
           obtain ⟨ad350, A350_6, c350_6, e350, hx350_0, hx350_1, hx350_2, hx350_3, hx350_4, hx350_5, hx350_6, hl350_6, hi350_6⟩ := at_T28 HR0.out x5_1 p350 q350
           obtain rfl : ad348 = ad350 := (by injection e350)
           replace hx350_0 := hb_ HB hx350_0
           replace hx350_1 := hb_ HB hx350_1
           replace hx350_2 := hb_ HB hx350_2
           replace hx350_3 := hb_ HB hx350_3
           replace hx350_4 := hb_ HB hx350_4
           replace hx350_5 := hb_ HB hx350_5
           replace hx350_6 := hb_ HB hx350_6
           have HR350_6 := Aside0.mk hi350_6
           have HC350_6 := Aside0.mk hl350_6
           clear hi350_6 hl350_6
           replace p350 := eq_true p350
           replace q350 := eq_true q350
           have ea_ := Option.some.inj (hx348_6.symm.trans hx350_6)
           injection ea_ with ea_ en_ ec_
           subst ea_
           subst ec_
           clear en_
           have p351 : 0 ≤ (x5_1 : Int) := of_decide_eq_true (by first | (with_reducible assumption) | assumption)
           have q351 : x5_1 < (l0.length : Int) := of_decide_eq_true (by first | (with_reducible assumption) | assumption)
           obtain ⟨ad351, A351_6, c351_6, e351, hx351_0, hx351_1, hx351_2, hx351_3, hx351_4, hx351_5, hx351_6, hl351_6, hi351_6⟩ := at_T28 HR0.out x5_1 p351 q351
           obtain rfl : ad348 = ad351 := (by injection e351)
           replace hx351_0 := hb_ HB hx351_0
           replace hx351_1 := hb_ HB hx351_1
           replace hx351_2 := hb_ HB hx351_2
           replace hx351_3 := hb_ HB hx351_3
           replace hx351_4 := hb_ HB hx351_4
           replace hx351_5 := hb_ HB hx351_5
           replace hx351_6 := hb_ HB hx351_6
           have HR351_6 := Aside0.mk hi351_6
           have HC351_6 := Aside0.mk hl351_6
           clear hi351_6 hl351_6
           replace p351 := eq_true p351
           replace q351 := eq_true q351
           have ea_ := Option.some.inj (hx348_6.symm.trans hx351_6)
           injection ea_ with ea_ en_ ec_
           subst ea_
           subst ec_
           clear en_
           try go_wp2
           replace HB := Aside0.mk (below_drew1 HB.out)
           have p352 : 0 ≤ (x5_1 : Int) := of_decide_eq_true (by first | (with_reducible assumption) | assumption)
           have q352 : x5_1 < (l0.length : Int) := of_decide_eq_true (by first | (with_reducible assumption) | assumption)
           obtain ⟨ad352, A352_6, c352_6, e352, hx352_0, hx352_1, hx352_2, hx352_3, hx352_4, hx352_5, hx352_6, hl352_6, hi352_6⟩ := at_T28 HR0.out x5_1 p352 q352
           have hw352_6 := hx352_6
           have hw352_5 := hx352_5
           have hw352_4 := hx352_4
           have hw352_3 := hx352_3
           have hw352_2 := hx352_2
           have hw352_1 := hx352_1
           have hw352_0 := hx352_0
           obtain rfl : ad348 = ad352 := (by injection e352)
           (try (have ea_ := Option.some.inj (hx352_6.symm.trans hw351_6); injection ea_ with ea_ en_ ec_; subst ea_; subst ec_; clear en_))
           replace hx352_0 := hb_ HB hx352_0
           replace hx352_1 := hb_ HB hx352_1
           replace hx352_2 := hb_ HB hx352_2
           replace hx352_3 := hb_ HB hx352_3
           replace hx352_4 := hb_ HB hx352_4
           replace hx352_5 := hb_ HB hx352_5
           replace hx352_6 := hb_ HB hx352_6
           have HR352_6 := Aside0.mk hi352_6
           have HC352_6 := Aside0.mk hl352_6
           clear hi352_6 hl352_6
           replace p352 := eq_true p352
           replace q352 := eq_true q352
           refine start_ (n := 9) (S := fun w' => w'.cell? (ad348.add ((x5_1).toNat * 7)) = some (.int .i64 ((rd_T28 l0 x5_1).f0)) ∧ w'.cell? ⟨(ad348.add ((x5_1).toNat * 7)).block, (ad348.add ((x5_1).toNat * 7)).off + 1, none⟩ = some (.int .i64 ((rd_T28 l0 x5_1).f1)) ∧ w'.cell? ⟨(ad348.add ((x5_1).toNat * 7)).block, (ad348.add ((x5_1).toNat * 7)).off + 2, none⟩ = some (.int .i64 ((rd_T28 l0 x5_1).f2.f0)) ∧ w'.cell? ⟨(ad348.add ((x5_1).toNat * 7)).block, (ad348.add ((x5_1).toNat * 7)).off + 3, none⟩ = some (.int .i64 ((rd_T28 l0 x5_1).f2.f1)) ∧ w'.cell? ⟨(ad348.add ((x5_1).toNat * 7)).block, (ad348.add ((x5_1).toNat * 7)).off + 4, none⟩ = some (.string ((rd_T28 l0 x5_1).f2.f2)) ∧ w'.cell? ⟨(ad348.add ((x5_1).toNat * 7)).block, (ad348.add ((x5_1).toNat * 7)).off + 5, none⟩ = some (.string ((rd_T28 l0 x5_1).f3)) ∧ w'.cell? ⟨(ad348.add ((x5_1).toNat * 7)).block, (ad348.add ((x5_1).toNat * 7)).off + 6, none⟩ = some (.slice A352_6 ((rd_T28 l0 x5_1).f4).length c352_6)) (ds := []) (tf 0 9) (by kernel_rfl) rfl rfl ⟨(hb_ HB hw352_0), (hb_ HB hw352_1), (hb_ HB hw352_2), (hb_ HB hw352_3), (hb_ HB hw352_4), (hb_ HB hw352_5), (hb_ HB hw352_6)⟩ (fun hHeld => ?_); refine with_tabW laws_heldExpS.tab16 laws_heldExpS.bits16 (fun HT_ HW_ => ?_)
           generalize wr.drew = w25 at HB HR352_6 hx352_0 hx352_1 hx352_2 hx352_3 hx352_4 hx352_5 hx352_6 hHeld ⊢
           iterate 5 (refine pl_ ?_)
           refine plx_ 6 #[true, true, true, true, true, false, true, false, false] ?_
           refine tlx_ 5 (tf 7 2) ?_
           refine one_ (i := 7) (N := some 57) (tf 8 1) rfl rfl (one_of HT_.out (by kernel_rfl)) (by decide) (fun K hK => ?_)
           refine gs_ Try.func40 #[.int .i64 (wrap64 ((wrap64 ((wrap64 ((wrap64 (x1_1 + 1)) + 1)) + 1)) + 1))] ?_
           with_reducible refine (laws_markText.calls k1 (wrap64 ((wrap64 ((wrap64 ((wrap64 (x1_1 + 1)) + 1)) + 1)) + 1)) t353 _ A9.out).mono ?_
           rintro e w26 ⟨rfl, hb⟩
           refine ⟨_, rfl, ?_⟩
           replace HB := bs_ hb
           (try clear hb)
           (try clear hb2)
           (try clear hk)
           (try clear hi)
           refine hK.out _ _ ⟨(have h_ := hb_ HB hw352_0; h_), (have h_ := hb_ HB hw352_1; h_), (have h_ := hb_ HB hw352_2; h_), (have h_ := hb_ HB hw352_3; h_), (have h_ := hb_ HB hw352_4; h_), (have h_ := hb_ HB hw352_5; h_), (have h_ := hb_ HB hw352_6; h_)⟩ (fun hHeld => ?_)
           clear hK K
           refine nm_ ?_
           refine plx_ 8 (tf 9 0) ?_
           refine done_ (done_of HT_.out (by kernel_rfl)) ?_
           try go_wp2
           replace HB := Aside0.mk (below_drew1 HB.out)
           have p354 : 0 ≤ (x5_1 : Int) := of_decide_eq_true (by first | (with_reducible assumption) | assumption)
           have q354 : x5_1 < (l0.length : Int) := of_decide_eq_true (by first | (with_reducible assumption) | assumption)
           obtain ⟨ad354, A354_6, c354_6, e354, hx354_0, hx354_1, hx354_2, hx354_3, hx354_4, hx354_5, hx354_6, hl354_6, hi354_6⟩ := at_T28 HR0.out x5_1 p354 q354
           have hw354_6 := hx354_6
           have hw354_5 := hx354_5
           have hw354_4 := hx354_4
           have hw354_3 := hx354_3
           have hw354_2 := hx354_2
           have hw354_1 := hx354_1
           have hw354_0 := hx354_0
           obtain rfl : ad348 = ad354 := (by injection e354)
           (try (have ea_ := Option.some.inj (hx354_6.symm.trans hw352_6); injection ea_ with ea_ en_ ec_; subst ea_; subst ec_; clear en_))
           replace hx354_0 := hb_ HB hx354_0
           replace hx354_1 := hb_ HB hx354_1
           replace hx354_2 := hb_ HB hx354_2
           replace hx354_3 := hb_ HB hx354_3
           replace hx354_4 := hb_ HB hx354_4
           replace hx354_5 := hb_ HB hx354_5
           replace hx354_6 := hb_ HB hx354_6
           have HR354_6 := Aside0.mk hi354_6
           have HC354_6 := Aside0.mk hl354_6
           clear hi354_6 hl354_6
           replace p354 := eq_true p354
           replace q354 := eq_true q354
           refine start_ (n := 8) (S := fun w' => w'.cell? (ad348.add ((x5_1).toNat * 7)) = some (.int .i64 ((rd_T28 l0 x5_1).f0)) ∧ w'.cell? ⟨(ad348.add ((x5_1).toNat * 7)).block, (ad348.add ((x5_1).toNat * 7)).off + 1, none⟩ = some (.int .i64 ((rd_T28 l0 x5_1).f1)) ∧ w'.cell? ⟨(ad348.add ((x5_1).toNat * 7)).block, (ad348.add ((x5_1).toNat * 7)).off + 2, none⟩ = some (.int .i64 ((rd_T28 l0 x5_1).f2.f0)) ∧ w'.cell? ⟨(ad348.add ((x5_1).toNat * 7)).block, (ad348.add ((x5_1).toNat * 7)).off + 3, none⟩ = some (.int .i64 ((rd_T28 l0 x5_1).f2.f1)) ∧ w'.cell? ⟨(ad348.add ((x5_1).toNat * 7)).block, (ad348.add ((x5_1).toNat * 7)).off + 4, none⟩ = some (.string ((rd_T28 l0 x5_1).f2.f2)) ∧ w'.cell? ⟨(ad348.add ((x5_1).toNat * 7)).block, (ad348.add ((x5_1).toNat * 7)).off + 5, none⟩ = some (.string ((rd_T28 l0 x5_1).f3)) ∧ w'.cell? ⟨(ad348.add ((x5_1).toNat * 7)).block, (ad348.add ((x5_1).toNat * 7)).off + 6, none⟩ = some (.slice A354_6 ((rd_T28 l0 x5_1).f4).length c354_6)) (ds := []) (tf 0 8) (by kernel_rfl) rfl rfl ⟨(hb_ HB hw354_0), (hb_ HB hw354_1), (hb_ HB hw354_2), (hb_ HB hw354_3), (hb_ HB hw354_4), (hb_ HB hw354_5), (hb_ HB hw354_6)⟩ (fun hHeld => ?_); refine with_tabW laws_heldExpS.tab19 laws_heldExpS.bits19 (fun HT_ HW_ => ?_)
           generalize w26.drew = w27 at HB HR354_6 hx354_0 hx354_1 hx354_2 hx354_3 hx354_4 hx354_5 hx354_6 hHeld ⊢
           iterate 4 (refine pl_ ?_)
           refine plx_ 5 #[true, true, true, true, false, true, false, false] ?_
           refine tlx_ 4 (tf 6 2) ?_
           refine one_ (i := 6) (N := some 67) (tf 7 1) rfl rfl (one_of HT_.out (by kernel_rfl)) (by decide) (fun K hK => ?_)
           refine gs_ Try.func40 #[.int .i64 (wrap64 ((wrap64 ((wrap64 ((wrap64 ((wrap64 (x1_1 + 1)) + 1)) + 1)) + 1)) + 1))] ?_
           with_reducible refine (laws_markText.calls k1 (wrap64 ((wrap64 ((wrap64 ((wrap64 ((wrap64 (x1_1 + 1)) + 1)) + 1)) + 1)) + 1)) t355 _ A11.out).mono ?_
           rintro e w28 ⟨rfl, hb⟩
           refine ⟨_, rfl, ?_⟩
           replace HB := bs_ hb
           (try clear hb)
           (try clear hb2)
           (try clear hk)
           (try clear hi)
           refine hK.out _ _ ⟨(have h_ := hb_ HB hw354_0; h_), (have h_ := hb_ HB hw354_1; h_), (have h_ := hb_ HB hw354_2; h_), (have h_ := hb_ HB hw354_3; h_), (have h_ := hb_ HB hw354_4; h_), (have h_ := hb_ HB hw354_5; h_), (have h_ := hb_ HB hw354_6; h_)⟩ (fun hHeld => ?_)
           clear hK K
           refine nm_ ?_
           refine plx_ 7 (tf 8 0) ?_
           refine done_ (done_of HT_.out (by kernel_rfl)) ?_
           try go_wp2
           go_ret
           exact ⟨er_, bb_⟩
         ·rw [if_neg c10] at H
          have c10b0 : (((rd_T28 l0 x5_1).f2.f2).toList == t353.toList) = false := beq_eq_false_iff_ne.mpr c10
          have c10b1 : (((rd_T28 l0 x5_1).f2.f2).toList != t353.toList) = true := bne_iff_ne.mpr c10
          obtain rfl := Option.some.inj H
          have p348 : 0 ≤ (x5_1 : Int) := of_decide_eq_true (by first | (with_reducible assumption) | assumption)
          have q348 : x5_1 < (l0.length : Int) := of_decide_eq_true (by first | (with_reducible assumption) | assumption)
          obtain ⟨ad348, A348_6, c348_6, e348, hx348_0, hx348_1, hx348_2, hx348_3, hx348_4, hx348_5, hx348_6, hl348_6, hi348_6⟩ := at_T28 HR0.out x5_1 p348 q348
          cases e348
          replace hx348_0 := hb_ HB hx348_0
          replace hx348_1 := hb_ HB hx348_1
          replace hx348_2 := hb_ HB hx348_2
          replace hx348_3 := hb_ HB hx348_3
          replace hx348_4 := hb_ HB hx348_4
          replace hx348_5 := hb_ HB hx348_5
          replace hx348_6 := hb_ HB hx348_6
          have HR348_6 := Aside0.mk hi348_6
          have HC348_6 := Aside0.mk hl348_6
          clear hi348_6 hl348_6
          replace p348 := eq_true p348
          replace q348 := eq_true q348
          have p349 : 0 ≤ (x5_1 : Int) := of_decide_eq_true (by first | (with_reducible assumption) | assumption)
          have q349 : x5_1 < (l0.length : Int) := of_decide_eq_true (by first | (with_reducible assumption) | assumption)
          obtain ⟨ad349, A349_6, c349_6, e349, hx349_0, hx349_1, hx349_2, hx349_3, hx349_4, hx349_5, hx349_6, hl349_6, hi349_6⟩ := at_T28 HR0.out x5_1 p349 q349
          obtain rfl : ad348 = ad349 := (by injection e349)
          replace hx349_0 := hb_ HB hx349_0
          replace hx349_1 := hb_ HB hx349_1
          replace hx349_2 := hb_ HB hx349_2
          replace hx349_3 := hb_ HB hx349_3
          replace hx349_4 := hb_ HB hx349_4
          replace hx349_5 := hb_ HB hx349_5
          replace hx349_6 := hb_ HB hx349_6
          have HR349_6 := Aside0.mk hi349_6
          have HC349_6 := Aside0.mk hl349_6
          clear hi349_6 hl349_6
          replace p349 := eq_true p349
          replace q349 := eq_true q349
          have ea_ := Option.some.inj (hx348_6.symm.trans hx349_6)
          injection ea_ with ea_ en_ ec_
          subst ea_
          subst ec_
          clear en_
          have p350 : 0 ≤ (x5_1 : Int) := of_decide_eq_true (by first | (with_reducible assumption) | assumption)
          have q350 : x5_1 < (l0.length : Int) := of_decide_eq_true (by first | (with_reducible assumption) | assumption)
          obtain ⟨ad350, A350_6, c350_6, e350, hx350_0, hx350_1, hx350_2, hx350_3, hx350_4, hx350_5, hx350_6, hl350_6, hi350_6⟩ := at_T28 HR0.out x5_1 p350 q350
          obtain rfl : ad348 = ad350 := (by injection e350)
          replace hx350_0 := hb_ HB hx350_0
          replace hx350_1 := hb_ HB hx350_1
          replace hx350_2 := hb_ HB hx350_2
          replace hx350_3 := hb_ HB hx350_3
          replace hx350_4 := hb_ HB hx350_4
          replace hx350_5 := hb_ HB hx350_5
          replace hx350_6 := hb_ HB hx350_6
          have HR350_6 := Aside0.mk hi350_6
          have HC350_6 := Aside0.mk hl350_6
          clear hi350_6 hl350_6
          replace p350 := eq_true p350
          replace q350 := eq_true q350
          have ea_ := Option.some.inj (hx348_6.symm.trans hx350_6)
          injection ea_ with ea_ en_ ec_
          subst ea_
          subst ec_
          clear en_
          have p351 : 0 ≤ (x5_1 : Int) := of_decide_eq_true (by first | (with_reducible assumption) | assumption)
          have q351 : x5_1 < (l0.length : Int) := of_decide_eq_true (by first | (with_reducible assumption) | assumption)
          obtain ⟨ad351, A351_6, c351_6, e351, hx351_0, hx351_1, hx351_2, hx351_3, hx351_4, hx351_5, hx351_6, hl351_6, hi351_6⟩ := at_T28 HR0.out x5_1 p351 q351
          obtain rfl : ad348 = ad351 := (by injection e351)
          replace hx351_0 := hb_ HB hx351_0
          replace hx351_1 := hb_ HB hx351_1
          replace hx351_2 := hb_ HB hx351_2
          replace hx351_3 := hb_ HB hx351_3
          replace hx351_4 := hb_ HB hx351_4
          replace hx351_5 := hb_ HB hx351_5
          replace hx351_6 := hb_ HB hx351_6
          have HR351_6 := Aside0.mk hi351_6
          have HC351_6 := Aside0.mk hl351_6
          clear hi351_6 hl351_6
          replace p351 := eq_true p351
          replace q351 := eq_true q351
          have ea_ := Option.some.inj (hx348_6.symm.trans hx351_6)
          injection ea_ with ea_ en_ ec_
          subst ea_
          subst ec_
          clear en_
          try go_wp2
          replace HB := Aside0.mk (below_drew1 HB.out)
          have p352 : 0 ≤ (x5_1 : Int) := of_decide_eq_true (by first | (with_reducible assumption) | assumption)
          have q352 : x5_1 < (l0.length : Int) := of_decide_eq_true (by first | (with_reducible assumption) | assumption)
          obtain ⟨ad352, A352_6, c352_6, e352, hx352_0, hx352_1, hx352_2, hx352_3, hx352_4, hx352_5, hx352_6, hl352_6, hi352_6⟩ := at_T28 HR0.out x5_1 p352 q352
          have hw352_6 := hx352_6
          have hw352_5 := hx352_5
          have hw352_4 := hx352_4
          have hw352_3 := hx352_3
          have hw352_2 := hx352_2
          have hw352_1 := hx352_1
          have hw352_0 := hx352_0
          obtain rfl : ad348 = ad352 := (by injection e352)
          (try (have ea_ := Option.some.inj (hx352_6.symm.trans hw351_6); injection ea_ with ea_ en_ ec_; subst ea_; subst ec_; clear en_))
          replace hx352_0 := hb_ HB hx352_0
          replace hx352_1 := hb_ HB hx352_1
          replace hx352_2 := hb_ HB hx352_2
          replace hx352_3 := hb_ HB hx352_3
          replace hx352_4 := hb_ HB hx352_4
          replace hx352_5 := hb_ HB hx352_5
          replace hx352_6 := hb_ HB hx352_6
          have HR352_6 := Aside0.mk hi352_6
          have HC352_6 := Aside0.mk hl352_6
          clear hi352_6 hl352_6
          replace p352 := eq_true p352
          replace q352 := eq_true q352
          refine start_ (n := 9) (S := fun w' => w'.cell? (ad348.add ((x5_1).toNat * 7)) = some (.int .i64 ((rd_T28 l0 x5_1).f0)) ∧ w'.cell? ⟨(ad348.add ((x5_1).toNat * 7)).block, (ad348.add ((x5_1).toNat * 7)).off + 1, none⟩ = some (.int .i64 ((rd_T28 l0 x5_1).f1)) ∧ w'.cell? ⟨(ad348.add ((x5_1).toNat * 7)).block, (ad348.add ((x5_1).toNat * 7)).off + 2, none⟩ = some (.int .i64 ((rd_T28 l0 x5_1).f2.f0)) ∧ w'.cell? ⟨(ad348.add ((x5_1).toNat * 7)).block, (ad348.add ((x5_1).toNat * 7)).off + 3, none⟩ = some (.int .i64 ((rd_T28 l0 x5_1).f2.f1)) ∧ w'.cell? ⟨(ad348.add ((x5_1).toNat * 7)).block, (ad348.add ((x5_1).toNat * 7)).off + 4, none⟩ = some (.string ((rd_T28 l0 x5_1).f2.f2)) ∧ w'.cell? ⟨(ad348.add ((x5_1).toNat * 7)).block, (ad348.add ((x5_1).toNat * 7)).off + 5, none⟩ = some (.string ((rd_T28 l0 x5_1).f3)) ∧ w'.cell? ⟨(ad348.add ((x5_1).toNat * 7)).block, (ad348.add ((x5_1).toNat * 7)).off + 6, none⟩ = some (.slice A352_6 ((rd_T28 l0 x5_1).f4).length c352_6)) (ds := []) (tf 0 9) (by kernel_rfl) rfl rfl ⟨(hb_ HB hw352_0), (hb_ HB hw352_1), (hb_ HB hw352_2), (hb_ HB hw352_3), (hb_ HB hw352_4), (hb_ HB hw352_5), (hb_ HB hw352_6)⟩ (fun hHeld => ?_); refine with_tabW laws_heldExpS.tab16 laws_heldExpS.bits16 (fun HT_ HW_ => ?_)
          generalize wr.drew = w29 at HB HR352_6 hx352_0 hx352_1 hx352_2 hx352_3 hx352_4 hx352_5 hx352_6 hHeld ⊢
          iterate 5 (refine pl_ ?_)
          refine plx_ 6 #[true, true, true, true, true, false, true, false, false] ?_
          refine tlx_ 5 (tf 7 2) ?_
          refine one_ (i := 7) (N := some 57) (tf 8 1) rfl rfl (one_of HT_.out (by kernel_rfl)) (by decide) (fun K hK => ?_)
          refine gs_ Try.func40 #[.int .i64 (wrap64 ((wrap64 ((wrap64 ((wrap64 (x1_1 + 1)) + 1)) + 1)) + 1))] ?_
          with_reducible refine (laws_markText.calls k1 (wrap64 ((wrap64 ((wrap64 ((wrap64 (x1_1 + 1)) + 1)) + 1)) + 1)) t353 _ A9.out).mono ?_
          rintro e w30 ⟨rfl, hb⟩
          refine ⟨_, rfl, ?_⟩
          replace HB := bs_ hb
          (try clear hb)
          (try clear hb2)
          (try clear hk)
          (try clear hi)
          refine hK.out _ _ ⟨(have h_ := hb_ HB hw352_0; h_), (have h_ := hb_ HB hw352_1; h_), (have h_ := hb_ HB hw352_2; h_), (have h_ := hb_ HB hw352_3; h_), (have h_ := hb_ HB hw352_4; h_), (have h_ := hb_ HB hw352_5; h_), (have h_ := hb_ HB hw352_6; h_)⟩ (fun hHeld => ?_)
          clear hK K
          refine nm_ ?_
          refine plx_ 8 (tf 9 0) ?_
          refine done_ (done_of HT_.out (by kernel_rfl)) ?_
          try go_wp2
          go_ret
          exact ⟨er_, bb_⟩
        ·rw [if_neg c8] at H
         have c8b0 : (((rd_T28 l0 x5_1).f2.f1) == (wrap64 ((wrap64 ((wrap64 (x1_1 + 1)) + 1)) + 1))) = false := beq_eq_false_iff_ne.mpr c8
         have c8b1 : (((rd_T28 l0 x5_1).f2.f1) != (wrap64 ((wrap64 ((wrap64 (x1_1 + 1)) + 1)) + 1))) = true := bne_iff_ne.mpr c8
         obtain rfl := Option.some.inj H
         have p348 : 0 ≤ (x5_1 : Int) := of_decide_eq_true (by first | (with_reducible assumption) | assumption)
         have q348 : x5_1 < (l0.length : Int) := of_decide_eq_true (by first | (with_reducible assumption) | assumption)
         obtain ⟨ad348, A348_6, c348_6, e348, hx348_0, hx348_1, hx348_2, hx348_3, hx348_4, hx348_5, hx348_6, hl348_6, hi348_6⟩ := at_T28 HR0.out x5_1 p348 q348
         cases e348
         replace hx348_0 := hb_ HB hx348_0
         replace hx348_1 := hb_ HB hx348_1
         replace hx348_2 := hb_ HB hx348_2
         replace hx348_3 := hb_ HB hx348_3
         replace hx348_4 := hb_ HB hx348_4
         replace hx348_5 := hb_ HB hx348_5
         replace hx348_6 := hb_ HB hx348_6
         have HR348_6 := Aside0.mk hi348_6
         have HC348_6 := Aside0.mk hl348_6
         clear hi348_6 hl348_6
         replace p348 := eq_true p348
         replace q348 := eq_true q348
         have p349 : 0 ≤ (x5_1 : Int) := of_decide_eq_true (by first | (with_reducible assumption) | assumption)
         have q349 : x5_1 < (l0.length : Int) := of_decide_eq_true (by first | (with_reducible assumption) | assumption)
         obtain ⟨ad349, A349_6, c349_6, e349, hx349_0, hx349_1, hx349_2, hx349_3, hx349_4, hx349_5, hx349_6, hl349_6, hi349_6⟩ := at_T28 HR0.out x5_1 p349 q349
         obtain rfl : ad348 = ad349 := (by injection e349)
         replace hx349_0 := hb_ HB hx349_0
         replace hx349_1 := hb_ HB hx349_1
         replace hx349_2 := hb_ HB hx349_2
         replace hx349_3 := hb_ HB hx349_3
         replace hx349_4 := hb_ HB hx349_4
         replace hx349_5 := hb_ HB hx349_5
         replace hx349_6 := hb_ HB hx349_6
         have HR349_6 := Aside0.mk hi349_6
         have HC349_6 := Aside0.mk hl349_6
         clear hi349_6 hl349_6
         replace p349 := eq_true p349
         replace q349 := eq_true q349
         have ea_ := Option.some.inj (hx348_6.symm.trans hx349_6)
         injection ea_ with ea_ en_ ec_
         subst ea_
         subst ec_
         clear en_
         have p350 : 0 ≤ (x5_1 : Int) := of_decide_eq_true (by first | (with_reducible assumption) | assumption)
         have q350 : x5_1 < (l0.length : Int) := of_decide_eq_true (by first | (with_reducible assumption) | assumption)
         obtain ⟨ad350, A350_6, c350_6, e350, hx350_0, hx350_1, hx350_2, hx350_3, hx350_4, hx350_5, hx350_6, hl350_6, hi350_6⟩ := at_T28 HR0.out x5_1 p350 q350
         obtain rfl : ad348 = ad350 := (by injection e350)
         replace hx350_0 := hb_ HB hx350_0
         replace hx350_1 := hb_ HB hx350_1
         replace hx350_2 := hb_ HB hx350_2
         replace hx350_3 := hb_ HB hx350_3
         replace hx350_4 := hb_ HB hx350_4
         replace hx350_5 := hb_ HB hx350_5
         replace hx350_6 := hb_ HB hx350_6
         have HR350_6 := Aside0.mk hi350_6
         have HC350_6 := Aside0.mk hl350_6
         clear hi350_6 hl350_6
         replace p350 := eq_true p350
         replace q350 := eq_true q350
         have ea_ := Option.some.inj (hx348_6.symm.trans hx350_6)
         injection ea_ with ea_ en_ ec_
         subst ea_
         subst ec_
         clear en_
         have p351 : 0 ≤ (x5_1 : Int) := of_decide_eq_true (by first | (with_reducible assumption) | assumption)
         have q351 : x5_1 < (l0.length : Int) := of_decide_eq_true (by first | (with_reducible assumption) | assumption)
         obtain ⟨ad351, A351_6, c351_6, e351, hx351_0, hx351_1, hx351_2, hx351_3, hx351_4, hx351_5, hx351_6, hl351_6, hi351_6⟩ := at_T28 HR0.out x5_1 p351 q351
         obtain rfl : ad348 = ad351 := (by injection e351)
         replace hx351_0 := hb_ HB hx351_0
         replace hx351_1 := hb_ HB hx351_1
         replace hx351_2 := hb_ HB hx351_2
         replace hx351_3 := hb_ HB hx351_3
         replace hx351_4 := hb_ HB hx351_4
         replace hx351_5 := hb_ HB hx351_5
         replace hx351_6 := hb_ HB hx351_6
         have HR351_6 := Aside0.mk hi351_6
         have HC351_6 := Aside0.mk hl351_6
         clear hi351_6 hl351_6
         replace p351 := eq_true p351
         replace q351 := eq_true q351
         have ea_ := Option.some.inj (hx348_6.symm.trans hx351_6)
         injection ea_ with ea_ en_ ec_
         subst ea_
         subst ec_
         clear en_
         go_wp2
         go_ret
         exact ⟨er_, bb_⟩
       ·rw [if_neg c7] at H
        have c7b0 : (((rd_T28 l0 x5_1).f2.f0) == (wrap64 ((wrap64 (x1_1 + 1)) + 1))) = false := beq_eq_false_iff_ne.mpr c7
        have c7b1 : (((rd_T28 l0 x5_1).f2.f0) != (wrap64 ((wrap64 (x1_1 + 1)) + 1))) = true := bne_iff_ne.mpr c7
        obtain rfl := Option.some.inj H
        have p348 : 0 ≤ (x5_1 : Int) := of_decide_eq_true (by first | (with_reducible assumption) | assumption)
        have q348 : x5_1 < (l0.length : Int) := of_decide_eq_true (by first | (with_reducible assumption) | assumption)
        obtain ⟨ad348, A348_6, c348_6, e348, hx348_0, hx348_1, hx348_2, hx348_3, hx348_4, hx348_5, hx348_6, hl348_6, hi348_6⟩ := at_T28 HR0.out x5_1 p348 q348
        cases e348
        replace hx348_0 := hb_ HB hx348_0
        replace hx348_1 := hb_ HB hx348_1
        replace hx348_2 := hb_ HB hx348_2
        replace hx348_3 := hb_ HB hx348_3
        replace hx348_4 := hb_ HB hx348_4
        replace hx348_5 := hb_ HB hx348_5
        replace hx348_6 := hb_ HB hx348_6
        have HR348_6 := Aside0.mk hi348_6
        have HC348_6 := Aside0.mk hl348_6
        clear hi348_6 hl348_6
        replace p348 := eq_true p348
        replace q348 := eq_true q348
        have p349 : 0 ≤ (x5_1 : Int) := of_decide_eq_true (by first | (with_reducible assumption) | assumption)
        have q349 : x5_1 < (l0.length : Int) := of_decide_eq_true (by first | (with_reducible assumption) | assumption)
        obtain ⟨ad349, A349_6, c349_6, e349, hx349_0, hx349_1, hx349_2, hx349_3, hx349_4, hx349_5, hx349_6, hl349_6, hi349_6⟩ := at_T28 HR0.out x5_1 p349 q349
        obtain rfl : ad348 = ad349 := (by injection e349)
        replace hx349_0 := hb_ HB hx349_0
        replace hx349_1 := hb_ HB hx349_1
        replace hx349_2 := hb_ HB hx349_2
        replace hx349_3 := hb_ HB hx349_3
        replace hx349_4 := hb_ HB hx349_4
        replace hx349_5 := hb_ HB hx349_5
        replace hx349_6 := hb_ HB hx349_6
        have HR349_6 := Aside0.mk hi349_6
        have HC349_6 := Aside0.mk hl349_6
        clear hi349_6 hl349_6
        replace p349 := eq_true p349
        replace q349 := eq_true q349
        have ea_ := Option.some.inj (hx348_6.symm.trans hx349_6)
        injection ea_ with ea_ en_ ec_
        subst ea_
        subst ec_
        clear en_
        have p350 : 0 ≤ (x5_1 : Int) := of_decide_eq_true (by first | (with_reducible assumption) | assumption)
        have q350 : x5_1 < (l0.length : Int) := of_decide_eq_true (by first | (with_reducible assumption) | assumption)
        obtain ⟨ad350, A350_6, c350_6, e350, hx350_0, hx350_1, hx350_2, hx350_3, hx350_4, hx350_5, hx350_6, hl350_6, hi350_6⟩ := at_T28 HR0.out x5_1 p350 q350
        obtain rfl : ad348 = ad350 := (by injection e350)
        replace hx350_0 := hb_ HB hx350_0
        replace hx350_1 := hb_ HB hx350_1
        replace hx350_2 := hb_ HB hx350_2
        replace hx350_3 := hb_ HB hx350_3
        replace hx350_4 := hb_ HB hx350_4
        replace hx350_5 := hb_ HB hx350_5
        replace hx350_6 := hb_ HB hx350_6
        have HR350_6 := Aside0.mk hi350_6
        have HC350_6 := Aside0.mk hl350_6
        clear hi350_6 hl350_6
        replace p350 := eq_true p350
        replace q350 := eq_true q350
        have ea_ := Option.some.inj (hx348_6.symm.trans hx350_6)
        injection ea_ with ea_ en_ ec_
        subst ea_
        subst ec_
        clear en_
        go_wp2
        go_ret
        exact ⟨er_, bb_⟩
      ·rw [if_neg c6] at H
       have c6b0 : (((rd_T28 l0 x5_1).f1) == (wrap64 (x1_1 + 1))) = false := beq_eq_false_iff_ne.mpr c6
       have c6b1 : (((rd_T28 l0 x5_1).f1) != (wrap64 (x1_1 + 1))) = true := bne_iff_ne.mpr c6
       obtain rfl := Option.some.inj H
       have p348 : 0 ≤ (x5_1 : Int) := of_decide_eq_true (by first | (with_reducible assumption) | assumption)
       have q348 : x5_1 < (l0.length : Int) := of_decide_eq_true (by first | (with_reducible assumption) | assumption)
       obtain ⟨ad348, A348_6, c348_6, e348, hx348_0, hx348_1, hx348_2, hx348_3, hx348_4, hx348_5, hx348_6, hl348_6, hi348_6⟩ := at_T28 HR0.out x5_1 p348 q348
       cases e348
       replace hx348_0 := hb_ HB hx348_0
       replace hx348_1 := hb_ HB hx348_1
       replace hx348_2 := hb_ HB hx348_2
       replace hx348_3 := hb_ HB hx348_3
       replace hx348_4 := hb_ HB hx348_4
       replace hx348_5 := hb_ HB hx348_5
       replace hx348_6 := hb_ HB hx348_6
       have HR348_6 := Aside0.mk hi348_6
       have HC348_6 := Aside0.mk hl348_6
       clear hi348_6 hl348_6
       replace p348 := eq_true p348
       replace q348 := eq_true q348
       have p349 : 0 ≤ (x5_1 : Int) := of_decide_eq_true (by first | (with_reducible assumption) | assumption)
       have q349 : x5_1 < (l0.length : Int) := of_decide_eq_true (by first | (with_reducible assumption) | assumption)
       obtain ⟨ad349, A349_6, c349_6, e349, hx349_0, hx349_1, hx349_2, hx349_3, hx349_4, hx349_5, hx349_6, hl349_6, hi349_6⟩ := at_T28 HR0.out x5_1 p349 q349
       obtain rfl : ad348 = ad349 := (by injection e349)
       replace hx349_0 := hb_ HB hx349_0
       replace hx349_1 := hb_ HB hx349_1
       replace hx349_2 := hb_ HB hx349_2
       replace hx349_3 := hb_ HB hx349_3
       replace hx349_4 := hb_ HB hx349_4
       replace hx349_5 := hb_ HB hx349_5
       replace hx349_6 := hb_ HB hx349_6
       have HR349_6 := Aside0.mk hi349_6
       have HC349_6 := Aside0.mk hl349_6
       clear hi349_6 hl349_6
       replace p349 := eq_true p349
       replace q349 := eq_true q349
       have ea_ := Option.some.inj (hx348_6.symm.trans hx349_6)
       injection ea_ with ea_ en_ ec_
       subst ea_
       subst ec_
       clear en_
       go_wp2
       go_ret
       exact ⟨er_, bb_⟩
     ·rw [if_neg c5] at H
      have c5b0 : (((rd_T28 l0 x5_1).f0) == x1_1) = false := beq_eq_false_iff_ne.mpr c5
      have c5b1 : (((rd_T28 l0 x5_1).f0) != x1_1) = true := bne_iff_ne.mpr c5
      obtain rfl := Option.some.inj H
      have p348 : 0 ≤ (x5_1 : Int) := of_decide_eq_true (by first | (with_reducible assumption) | assumption)
      have q348 : x5_1 < (l0.length : Int) := of_decide_eq_true (by first | (with_reducible assumption) | assumption)
      obtain ⟨ad348, A348_6, c348_6, e348, hx348_0, hx348_1, hx348_2, hx348_3, hx348_4, hx348_5, hx348_6, hl348_6, hi348_6⟩ := at_T28 HR0.out x5_1 p348 q348
      cases e348
      replace hx348_0 := hb_ HB hx348_0
      replace hx348_1 := hb_ HB hx348_1
      replace hx348_2 := hb_ HB hx348_2
      replace hx348_3 := hb_ HB hx348_3
      replace hx348_4 := hb_ HB hx348_4
      replace hx348_5 := hb_ HB hx348_5
      replace hx348_6 := hb_ HB hx348_6
      have HR348_6 := Aside0.mk hi348_6
      have HC348_6 := Aside0.mk hl348_6
      clear hi348_6 hl348_6
      replace p348 := eq_true p348
      replace q348 := eq_true q348
      go_wp2
      go_ret
      exact ⟨er_, bb_⟩
    ·rw [if_neg c4] at H
     exact absurd H (by simp)
   ·rw [if_neg c3] at H
    have c3b0 : decide (x5_1 < (l0.length : Int)) = false := decide_eq_false c3
    clear c3
    obtain rfl := Option.some.inj H
    go_wp2
    go_ret
    exact ⟨er_, bb_⟩

end Go.Proofs.Ytapgfamppnhnmaa.PFnExactAndAll
