-- WRITTEN BY xprint.py, a program of this session over the kit's printer: by nobody's hand
-- PRESSED
import Derived.Test.YthgdmdabdlgliaaDoorPress
import Derived.Test.YthgdmdabdlgliaaDoorPFnExactPlanTextx0
import Derived.Test.YthgdmdabdlgliaaDoorPFnExactPlanTextx11
namespace Go.Proofs.YthgdmdabdlgliaaDoor.PFnExactPlanText
open Go.RowKit Go.Proofs.YthgdmdabdlgliaaDoorW.PrintWords Go.Proofs.YthgdmdabdlgliaaDoorW.PrintLast Go.Proofs.YthgdmdabdlgliaaDoorW.PrintMore
set_option linter.unusedVariables false
set_option linter.unusedSimpArgs false

/-! ### laws_eqPlanS: function 85 -/
def laws_eqPlanS.l0 (E_ : Int → ByteArray → Int → Int → Int → Int → ByteArray → ByteArray → (List (S32)) → (List (S32)) → Int → (List (S70)) → Int → ByteArray → Int → Int → Int → Int → ByteArray → ByteArray → (List (S32)) → (List (S32)) → Int → (List (S70)) → Option (Bool)) : Nat → List (S70) → List (S70) → Int → Option (Bool)
 | 0, _, _, _ => none
 | k + 1, x0, x1, x5 => if x5 < (x0.length : Int) then (if 0 ≤ x5 then (if x5 < (x1.length : Int) then ((E_ ((rd_T70 x0 x5).f0) ((rd_T70 x0 x5).f1) ((rd_T70 x0 x5).f2.f0) ((rd_T70 x0 x5).f2.f1) ((rd_T70 x0 x5).f2.f2.f0) ((rd_T70 x0 x5).f2.f2.f1) ((rd_T70 x0 x5).f2.f2.f2) ((rd_T70 x0 x5).f2.f3) ((rd_T70 x0 x5).f2.f4) ((rd_T70 x0 x5).f3) ((rd_T70 x0 x5).f4) ((rd_T70 x0 x5).f5) ((rd_T70 x1 x5).f0) ((rd_T70 x1 x5).f1) ((rd_T70 x1 x5).f2.f0) ((rd_T70 x1 x5).f2.f1) ((rd_T70 x1 x5).f2.f2.f0) ((rd_T70 x1 x5).f2.f2.f1) ((rd_T70 x1 x5).f2.f2.f2) ((rd_T70 x1 x5).f2.f3) ((rd_T70 x1 x5).f2.f4) ((rd_T70 x1 x5).f3) ((rd_T70 x1 x5).f4) ((rd_T70 x1 x5).f5)).bind fun t300 => (if t300 = true then (laws_eqPlanS.l0 E_ k x0 x1 (wrap64 (x5 + 1))) else (some false))) else (none)) else (none)) else (some true)
def laws_eqPlanS.f (E_ : Int → ByteArray → Int → Int → Int → Int → ByteArray → ByteArray → (List (S32)) → (List (S32)) → Int → (List (S70)) → Int → ByteArray → Int → Int → Int → Int → ByteArray → ByteArray → (List (S32)) → (List (S32)) → Int → (List (S70)) → Option (Bool)) (k : Nat) (l0 : List (S70)) (l1 : List (S70)) : Option (Bool) := if (l0.length : Int) = (l1.length : Int) then (laws_eqPlanS.l0 E_ k l0 l1 0) else (some false)
def laws_eqPlanS.T6 : Bool × List (List Nat × List Nat) := (true, [([], []), ([], []), ([0, 1], [0, 1]), ([2], [2]), ([], []), ([], []), ([4, 5], [4, 5]), ([6], [6]), ([3, 7], [3, 7]), ([8], [8])])
def laws_eqPlanS.B6 : List Nat := [0, 0, 3, 7, 0, 0, 48, 112, 255, 511]
theorem laws_eqPlanS.tab6 : rtab .any (opsOf Tryd.f85 6) = laws_eqPlanS.T6 := by kernel_rfl
theorem laws_eqPlanS.bits6 : waitsOk laws_eqPlanS.T6.2 laws_eqPlanS.B6 = true := by kernel_rfl
set_option maxHeartbeats 8000000 in
set_option maxRecDepth 100000 in
theorem laws_eqPlanS.calls (E_ : Int → ByteArray → Int → Int → Int → Int → ByteArray → ByteArray → (List (S32)) → (List (S32)) → Int → (List (S70)) → Int → ByteArray → Int → Int → Int → Int → ByteArray → ByteArray → (List (S32)) → (List (S32)) → Int → (List (S70)) → Option (Bool)) (hE_ : ∀ (a0_0 : Int) (a0_1 : ByteArray) (a0_2 : Int) (a0_3 : Int) (a0_4 : Int) (a0_5 : Int) (a0_6 : ByteArray) (a0_7 : ByteArray) (A0_8 : Option Addr) (c0_8 : Nat) (l0_8 : List (S32)) (A0_9 : Option Addr) (c0_9 : Nat) (l0_9 : List (S32)) (a0_10 : Int) (A0_11 : Option Addr) (c0_11 : Nat) (l0_11 : List (S70)) (a1_0 : Int) (a1_1 : ByteArray) (a1_2 : Int) (a1_3 : Int) (a1_4 : Int) (a1_5 : Int) (a1_6 : ByteArray) (a1_7 : ByteArray) (A1_8 : Option Addr) (c1_8 : Nat) (l1_8 : List (S32)) (A1_9 : Option Addr) (c1_9 : Nat) (l1_9 : List (S32)) (a1_10 : Int) (A1_11 : Option Addr) (c1_11 : Nat) (l1_11 : List (S70)) (r : Bool) (w : World) (hr0_8 : Kd.C k32 w A0_8 l0_8.length l0_8) (hc0_8 : l0_8.length ≤ c0_8) (hr0_9 : Kd.C k32 w A0_9 l0_9.length l0_9) (hc0_9 : l0_9.length ≤ c0_9) (hr0_11 : Kd.C k70 w A0_11 l0_11.length l0_11) (hc0_11 : l0_11.length ≤ c0_11) (hr1_8 : Kd.C k32 w A1_8 l1_8.length l1_8) (hc1_8 : l1_8.length ≤ c1_8) (hr1_9 : Kd.C k32 w A1_9 l1_9.length l1_9) (hc1_9 : l1_9.length ≤ c1_9) (hr1_11 : Kd.C k70 w A1_11 l1_11.length l1_11) (hc1_11 : l1_11.length ≤ c1_11) (h : E_ a0_0 a0_1 a0_2 a0_3 a0_4 a0_5 a0_6 a0_7 l0_8 l0_9 a0_10 l0_11 a1_0 a1_1 a1_2 a1_3 a1_4 a1_5 a1_6 a1_7 l1_8 l1_9 a1_10 l1_11 = some r), Calls Tryd.prog 41 #[.agg #[.int .i64 a0_0, .string a0_1, .int .i64 a0_2, .int .i64 a0_3, .int .i64 a0_4, .int .i64 a0_5, .string a0_6, .string a0_7, .slice A0_8 l0_8.length c0_8, .slice A0_9 l0_9.length c0_9, .int .i64 a0_10, .slice A0_11 l0_11.length c0_11], .agg #[.int .i64 a1_0, .string a1_1, .int .i64 a1_2, .int .i64 a1_3, .int .i64 a1_4, .int .i64 a1_5, .string a1_6, .string a1_7, .slice A1_8 l1_8.length c1_8, .slice A1_9 l1_9.length c1_9, .int .i64 a1_10, .slice A1_11 l1_11.length c1_11]] w fun e w' => e = .returned (.bool r) ∧ Below w.heap.size w w') (k : Nat) (A0 : Option Addr) (c0 : Nat) (l0 : List (S70)) (A1 : Option Addr) (c1 : Nat) (l1 : List (S70)) (r : Bool) (w : World) (hr0 : Kd.C k70 w A0 l0.length l0) (hc0 : l0.length ≤ c0) (hr1 : Kd.C k70 w A1 l1.length l1) (hc1 : l1.length ≤ c1) (h : laws_eqPlanS.f E_ k l0 l1 = some r) :
  Calls Tryd.prog 85 #[.slice A0 l0.length c0, .slice A1 l1.length c1] w fun e w' => e = .returned (.bool r) ∧ Below w.heap.size w w' := by
 have hu70 := Tryd.underlying70
 have HR0 := Aside0.mk hr0
 have HC0 := Aside0.mk hc0
 clear hr0 hc0
 have HR1 := Aside0.mk hr1
 have HC1 := Aside0.mk hc1
 clear hr1 hc1
 have HB := Aside0.mk (Below.refl w.heap.size w)
 have H : (if (l0.length : Int) = (l1.length : Int) then (laws_eqPlanS.l0 E_ k l0 l1 0) else (some false)) = some r := h
 clear h
 by_cases c3 : (l0.length : Int) = (l1.length : Int)
 ·rw [if_pos c3] at H
  have c3b0 : ((l0.length : Int) == (l1.length : Int)) = true := beq_iff_eq.mpr c3
  have c3b1 : ((l0.length : Int) != (l1.length : Int)) = false := bne_eq_false_iff_eq.mpr c3
  have c3b2 : (l0.length == l1.length) = true := by first | simpa using c3 | (simp at c3 ⊢; omega)
  clear c3
  have H' := Aside0.mk H
  clear H
  go_enter Tryd.func85, Tryd.ntmps85
  go_wp2
  go_loopg [5] k (fun kq v5 w' => ∃ (x5_1 : Int), v5 = .int .i64 x5_1 ∧ Aside0 (laws_eqPlanS.l0 E_ kq l0 l1 x5_1 = some r) ∧ Aside0 (kq ≤ k) ∧ Aside0 (Below w.heap.size w w'))
  case atStart => exact ⟨(0), rs_, H', ⟨Nat.le_refl _⟩, ⟨bb_⟩⟩
  case round =>
   clear H'
   try clear c1
   try clear p2
   try clear c3
   try clear c3b0
   try clear c3b1
   try clear c3b2
   obtain ⟨x5_1, rfl, HA, HK1, HB⟩ := hrel
   cases gk with
   | zero => exact absurd HA.out (by simp [laws_eqPlanS.l0])
   | succ k1 =>
    have H := HA.out
    clear HA
    simp only [laws_eqPlanS.l0] at H
    by_cases c4 : x5_1 < (l0.length : Int)
    ·rw [if_pos c4] at H
     have c4b0 : decide (x5_1 < (l0.length : Int)) = true := decide_eq_true c4
     clear c4
     by_cases c5 : 0 ≤ x5_1
     ·rw [if_pos c5] at H
      have c5b0 : decide (0 ≤ x5_1) = true := decide_eq_true c5
      clear c5
      by_cases c6 : x5_1 < (l1.length : Int)
      ·rw [if_pos c6] at H
       have c6b0 : decide (x5_1 < (l1.length : Int)) = true := decide_eq_true c6
       clear c6
       replace H := Option.bind_eq_some_iff.mp H
       obtain ⟨t300, A70, H⟩ := H
       replace H : (if t300 = true then (laws_eqPlanS.l0 E_ k1 l0 l1 (wrap64 (x5_1 + 1))) else (some false)) = some r := H
       have A7 := Aside0.mk A70
       clear A70
       by_cases c8 : t300 = true
       ·subst c8
        have H1 : (laws_eqPlanS.l0 E_ k1 l0 l1 (wrap64 (x5_1 + 1))) = some r := by rw [if_pos rfl] at H; exact H
        clear H
        have H := H1
        clear H1
        have H' := Aside0.mk H
        clear H
        try go_wp2
        replace HB := Aside0.mk (below_drew1 HB.out)
        have p298 : 0 ≤ (x5_1 : Int) := of_decide_eq_true (by first | (with_reducible assumption) | assumption)
        have q298 : x5_1 < (l0.length : Int) := of_decide_eq_true (by first | (with_reducible assumption) | assumption)
        obtain ⟨ad298, A298_8, c298_8, A298_9, c298_9, A298_11, c298_11, e298, hx298_0, hx298_1, hx298_2, hx298_3, hx298_4, hx298_5, hx298_6, hx298_7, hx298_8, hx298_9, hx298_10, hx298_11, hl298_8, hi298_8, hl298_9, hi298_9, hl298_11, hi298_11⟩ := at_T70 HR0.out x5_1 p298 q298
        have hw298_11 := hx298_11
        have hw298_10 := hx298_10
        have hw298_9 := hx298_9
        have hw298_8 := hx298_8
        have hw298_7 := hx298_7
        have hw298_6 := hx298_6
        have hw298_5 := hx298_5
        have hw298_4 := hx298_4
        have hw298_3 := hx298_3
        have hw298_2 := hx298_2
        have hw298_1 := hx298_1
        have hw298_0 := hx298_0
        cases e298
        replace hx298_0 := hb_ HB hx298_0
        replace hx298_1 := hb_ HB hx298_1
        replace hx298_2 := hb_ HB hx298_2
        replace hx298_3 := hb_ HB hx298_3
        replace hx298_4 := hb_ HB hx298_4
        replace hx298_5 := hb_ HB hx298_5
        replace hx298_6 := hb_ HB hx298_6
        replace hx298_7 := hb_ HB hx298_7
        replace hx298_8 := hb_ HB hx298_8
        replace hx298_9 := hb_ HB hx298_9
        replace hx298_10 := hb_ HB hx298_10
        replace hx298_11 := hb_ HB hx298_11
        have HR298_8 := Aside0.mk hi298_8
        have HC298_8 := Aside0.mk hl298_8
        clear hi298_8 hl298_8
        have HR298_9 := Aside0.mk hi298_9
        have HC298_9 := Aside0.mk hl298_9
        clear hi298_9 hl298_9
        have HR298_11 := Aside0.mk hi298_11
        have HC298_11 := Aside0.mk hl298_11
        clear hi298_11 hl298_11
        replace p298 := eq_true p298
        replace q298 := eq_true q298
        have p299 : 0 ≤ (x5_1 : Int) := of_decide_eq_true (by first | (with_reducible assumption) | assumption)
        have q299 : x5_1 < (l1.length : Int) := of_decide_eq_true (by first | (with_reducible assumption) | assumption)
        obtain ⟨ad299, A299_8, c299_8, A299_9, c299_9, A299_11, c299_11, e299, hx299_0, hx299_1, hx299_2, hx299_3, hx299_4, hx299_5, hx299_6, hx299_7, hx299_8, hx299_9, hx299_10, hx299_11, hl299_8, hi299_8, hl299_9, hi299_9, hl299_11, hi299_11⟩ := at_T70 HR1.out x5_1 p299 q299
        have hw299_11 := hx299_11
        have hw299_10 := hx299_10
        have hw299_9 := hx299_9
        have hw299_8 := hx299_8
        have hw299_7 := hx299_7
        have hw299_6 := hx299_6
        have hw299_5 := hx299_5
        have hw299_4 := hx299_4
        have hw299_3 := hx299_3
        have hw299_2 := hx299_2
        have hw299_1 := hx299_1
        have hw299_0 := hx299_0
        cases e299
        replace hx299_0 := hb_ HB hx299_0
        replace hx299_1 := hb_ HB hx299_1
        replace hx299_2 := hb_ HB hx299_2
        replace hx299_3 := hb_ HB hx299_3
        replace hx299_4 := hb_ HB hx299_4
        replace hx299_5 := hb_ HB hx299_5
        replace hx299_6 := hb_ HB hx299_6
        replace hx299_7 := hb_ HB hx299_7
        replace hx299_8 := hb_ HB hx299_8
        replace hx299_9 := hb_ HB hx299_9
        replace hx299_10 := hb_ HB hx299_10
        replace hx299_11 := hb_ HB hx299_11
        have HR299_8 := Aside0.mk hi299_8
        have HC299_8 := Aside0.mk hl299_8
        clear hi299_8 hl299_8
        have HR299_9 := Aside0.mk hi299_9
        have HC299_9 := Aside0.mk hl299_9
        clear hi299_9 hl299_9
        have HR299_11 := Aside0.mk hi299_11
        have HC299_11 := Aside0.mk hl299_11
        clear hi299_11 hl299_11
        replace p299 := eq_true p299
        replace q299 := eq_true q299
        refine start_ (n := 10) (S := fun w' => w'.cell? (ad298.add ((x5_1).toNat * 12)) = some (.int .i64 ((rd_T70 l0 x5_1).f0)) ∧ w'.cell? ⟨(ad298.add ((x5_1).toNat * 12)).block, (ad298.add ((x5_1).toNat * 12)).off + 1, none⟩ = some (.string ((rd_T70 l0 x5_1).f1)) ∧ w'.cell? ⟨(ad298.add ((x5_1).toNat * 12)).block, (ad298.add ((x5_1).toNat * 12)).off + 2, none⟩ = some (.int .i64 ((rd_T70 l0 x5_1).f2.f0)) ∧ w'.cell? ⟨(ad298.add ((x5_1).toNat * 12)).block, (ad298.add ((x5_1).toNat * 12)).off + 3, none⟩ = some (.int .i64 ((rd_T70 l0 x5_1).f2.f1)) ∧ w'.cell? ⟨(ad298.add ((x5_1).toNat * 12)).block, (ad298.add ((x5_1).toNat * 12)).off + 4, none⟩ = some (.int .i64 ((rd_T70 l0 x5_1).f2.f2.f0)) ∧ w'.cell? ⟨(ad298.add ((x5_1).toNat * 12)).block, (ad298.add ((x5_1).toNat * 12)).off + 5, none⟩ = some (.int .i64 ((rd_T70 l0 x5_1).f2.f2.f1)) ∧ w'.cell? ⟨(ad298.add ((x5_1).toNat * 12)).block, (ad298.add ((x5_1).toNat * 12)).off + 6, none⟩ = some (.string ((rd_T70 l0 x5_1).f2.f2.f2)) ∧ w'.cell? ⟨(ad298.add ((x5_1).toNat * 12)).block, (ad298.add ((x5_1).toNat * 12)).off + 7, none⟩ = some (.string ((rd_T70 l0 x5_1).f2.f3)) ∧ w'.cell? ⟨(ad298.add ((x5_1).toNat * 12)).block, (ad298.add ((x5_1).toNat * 12)).off + 8, none⟩ = some (.slice A298_8 ((rd_T70 l0 x5_1).f2.f4).length c298_8) ∧ w'.cell? ⟨(ad298.add ((x5_1).toNat * 12)).block, (ad298.add ((x5_1).toNat * 12)).off + 9, none⟩ = some (.slice A298_9 ((rd_T70 l0 x5_1).f3).length c298_9) ∧ w'.cell? ⟨(ad298.add ((x5_1).toNat * 12)).block, (ad298.add ((x5_1).toNat * 12)).off + 10, none⟩ = some (.int .i64 ((rd_T70 l0 x5_1).f4)) ∧ w'.cell? ⟨(ad298.add ((x5_1).toNat * 12)).block, (ad298.add ((x5_1).toNat * 12)).off + 11, none⟩ = some (.slice A298_11 ((rd_T70 l0 x5_1).f5).length c298_11) ∧ w'.cell? (ad299.add ((x5_1).toNat * 12)) = some (.int .i64 ((rd_T70 l1 x5_1).f0)) ∧ w'.cell? ⟨(ad299.add ((x5_1).toNat * 12)).block, (ad299.add ((x5_1).toNat * 12)).off + 1, none⟩ = some (.string ((rd_T70 l1 x5_1).f1)) ∧ w'.cell? ⟨(ad299.add ((x5_1).toNat * 12)).block, (ad299.add ((x5_1).toNat * 12)).off + 2, none⟩ = some (.int .i64 ((rd_T70 l1 x5_1).f2.f0)) ∧ w'.cell? ⟨(ad299.add ((x5_1).toNat * 12)).block, (ad299.add ((x5_1).toNat * 12)).off + 3, none⟩ = some (.int .i64 ((rd_T70 l1 x5_1).f2.f1)) ∧ w'.cell? ⟨(ad299.add ((x5_1).toNat * 12)).block, (ad299.add ((x5_1).toNat * 12)).off + 4, none⟩ = some (.int .i64 ((rd_T70 l1 x5_1).f2.f2.f0)) ∧ w'.cell? ⟨(ad299.add ((x5_1).toNat * 12)).block, (ad299.add ((x5_1).toNat * 12)).off + 5, none⟩ = some (.int .i64 ((rd_T70 l1 x5_1).f2.f2.f1)) ∧ w'.cell? ⟨(ad299.add ((x5_1).toNat * 12)).block, (ad299.add ((x5_1).toNat * 12)).off + 6, none⟩ = some (.string ((rd_T70 l1 x5_1).f2.f2.f2)) ∧ w'.cell? ⟨(ad299.add ((x5_1).toNat * 12)).block, (ad299.add ((x5_1).toNat * 12)).off + 7, none⟩ = some (.string ((rd_T70 l1 x5_1).f2.f3)) ∧ w'.cell? ⟨(ad299.add ((x5_1).toNat * 12)).block, (ad299.add ((x5_1).toNat * 12)).off + 8, none⟩ = some (.slice A299_8 ((rd_T70 l1 x5_1).f2.f4).length c299_8) ∧ w'.cell? ⟨(ad299.add ((x5_1).toNat * 12)).block, (ad299.add ((x5_1).toNat * 12)).off + 9, none⟩ = some (.slice A299_9 ((rd_T70 l1 x5_1).f3).length c299_9) ∧ w'.cell? ⟨(ad299.add ((x5_1).toNat * 12)).block, (ad299.add ((x5_1).toNat * 12)).off + 10, none⟩ = some (.int .i64 ((rd_T70 l1 x5_1).f4)) ∧ w'.cell? ⟨(ad299.add ((x5_1).toNat * 12)).block, (ad299.add ((x5_1).toNat * 12)).off + 11, none⟩ = some (.slice A299_11 ((rd_T70 l1 x5_1).f5).length c299_11)) (ds := []) (tf 0 10) (by kernel_rfl) rfl rfl ⟨(hb_ HB hw298_0), (hb_ HB hw298_1), (hb_ HB hw298_2), (hb_ HB hw298_3), (hb_ HB hw298_4), (hb_ HB hw298_5), (hb_ HB hw298_6), (hb_ HB hw298_7), (hb_ HB hw298_8), (hb_ HB hw298_9), (hb_ HB hw298_10), (hb_ HB hw298_11), (hb_ HB hw299_0), (hb_ HB hw299_1), (hb_ HB hw299_2), (hb_ HB hw299_3), (hb_ HB hw299_4), (hb_ HB hw299_5), (hb_ HB hw299_6), (hb_ HB hw299_7), (hb_ HB hw299_8), (hb_ HB hw299_9), (hb_ HB hw299_10), (hb_ HB hw299_11)⟩ (fun hHeld => ?_); refine with_tabW laws_eqPlanS.tab6 laws_eqPlanS.bits6 (fun HT_ HW_ => ?_)
        generalize wr.drew = w9 at HB HR298_11 HR298_8 HR298_9 HR299_11 HR299_8 HR299_9 hx298_0 hx298_1 hx298_10 hx298_11 hx298_2 hx298_3 hx298_4 hx298_5 hx298_6 hx298_7 hx298_8 hx298_9 hx299_0 hx299_1 hx299_10 hx299_11 hx299_2 hx299_3 hx299_4 hx299_5 hx299_6 hx299_7 hx299_8 hx299_9 hHeld ⊢
        iterate 3 (refine pl_ ?_)
        refine plx_ 4 #[true, true, true, false, true, false, false, false, false, false] ?_
        refine plx_ 5 #[true, true, true, false, true, true, false, false, false, false] ?_
        refine plx_ 6 #[true, true, true, false, true, true, true, false, false, false] ?_
        refine tlx_ 3 (tf 7 3) ?_
        refine tl_ ?_
        refine one_ (i := 8) (N := some 25) (tf 9 1) rfl rfl (one_of HT_.out (by kernel_rfl)) (by decide) (fun K hK => ?_)
        refine gs_ Tryd.func41 #[.agg #[.int .i64 ((rd_T70 l0 x5_1).f0), .string ((rd_T70 l0 x5_1).f1), .int .i64 ((rd_T70 l0 x5_1).f2.f0), .int .i64 ((rd_T70 l0 x5_1).f2.f1), .int .i64 ((rd_T70 l0 x5_1).f2.f2.f0), .int .i64 ((rd_T70 l0 x5_1).f2.f2.f1), .string ((rd_T70 l0 x5_1).f2.f2.f2), .string ((rd_T70 l0 x5_1).f2.f3), .slice A298_8 ((rd_T70 l0 x5_1).f2.f4).length c298_8, .slice A298_9 ((rd_T70 l0 x5_1).f3).length c298_9, .int .i64 ((rd_T70 l0 x5_1).f4), .slice A298_11 ((rd_T70 l0 x5_1).f5).length c298_11], .agg #[.int .i64 ((rd_T70 l1 x5_1).f0), .string ((rd_T70 l1 x5_1).f1), .int .i64 ((rd_T70 l1 x5_1).f2.f0), .int .i64 ((rd_T70 l1 x5_1).f2.f1), .int .i64 ((rd_T70 l1 x5_1).f2.f2.f0), .int .i64 ((rd_T70 l1 x5_1).f2.f2.f1), .string ((rd_T70 l1 x5_1).f2.f2.f2), .string ((rd_T70 l1 x5_1).f2.f3), .slice A299_8 ((rd_T70 l1 x5_1).f2.f4).length c299_8, .slice A299_9 ((rd_T70 l1 x5_1).f3).length c299_9, .int .i64 ((rd_T70 l1 x5_1).f4), .slice A299_11 ((rd_T70 l1 x5_1).f5).length c299_11]] ?_
        with_reducible refine (hE_ ((rd_T70 l0 x5_1).f0) ((rd_T70 l0 x5_1).f1) ((rd_T70 l0 x5_1).f2.f0) ((rd_T70 l0 x5_1).f2.f1) ((rd_T70 l0 x5_1).f2.f2.f0) ((rd_T70 l0 x5_1).f2.f2.f1) ((rd_T70 l0 x5_1).f2.f2.f2) ((rd_T70 l0 x5_1).f2.f3) _ _ ((rd_T70 l0 x5_1).f2.f4) _ _ ((rd_T70 l0 x5_1).f3) ((rd_T70 l0 x5_1).f4) _ _ ((rd_T70 l0 x5_1).f5) ((rd_T70 l1 x5_1).f0) ((rd_T70 l1 x5_1).f1) ((rd_T70 l1 x5_1).f2.f0) ((rd_T70 l1 x5_1).f2.f1) ((rd_T70 l1 x5_1).f2.f2.f0) ((rd_T70 l1 x5_1).f2.f2.f1) ((rd_T70 l1 x5_1).f2.f2.f2) ((rd_T70 l1 x5_1).f2.f3) _ _ ((rd_T70 l1 x5_1).f2.f4) _ _ ((rd_T70 l1 x5_1).f3) ((rd_T70 l1 x5_1).f4) _ _ ((rd_T70 l1 x5_1).f5) true _ ?side1 ?side2 ?side3 ?side4 ?side5 ?side6 ?side7 ?side8 ?side9 ?side10 ?side11 ?side12 A7.out).mono ?_
        (case side1 => exact ck_ (Kd.C_below HR298_8.out HB.out))
        (case side2 => exact HC298_8.out)
        (case side3 => exact ck_ (Kd.C_below HR298_9.out HB.out))
        (case side4 => exact HC298_9.out)
        (case side5 => exact ck_ (Kd.C_below HR298_11.out HB.out))
        (case side6 => exact HC298_11.out)
        (case side7 => exact ck_ (Kd.C_below HR299_8.out HB.out))
        (case side8 => exact HC299_8.out)
        (case side9 => exact ck_ (Kd.C_below HR299_9.out HB.out))
        (case side10 => exact HC299_9.out)
        (case side11 => exact ck_ (Kd.C_below HR299_11.out HB.out))
        (case side12 => exact HC299_11.out)
        rintro e w10 ⟨rfl, hb⟩
        refine ⟨_, rfl, ?_⟩
        replace HB := bs_ hb
        (try clear hb)
        (try clear hb2)
        (try clear hk)
        (try clear hi)
        refine hK.out _ _ ⟨(hb_ HB hw298_0), (hb_ HB hw298_1), (hb_ HB hw298_2), (hb_ HB hw298_3), (hb_ HB hw298_4), (hb_ HB hw298_5), (hb_ HB hw298_6), (hb_ HB hw298_7), (hb_ HB hw298_8), (hb_ HB hw298_9), (hb_ HB hw298_10), (hb_ HB hw298_11), (hb_ HB hw299_0), (hb_ HB hw299_1), (hb_ HB hw299_2), (hb_ HB hw299_3), (hb_ HB hw299_4), (hb_ HB hw299_5), (hb_ HB hw299_6), (hb_ HB hw299_7), (hb_ HB hw299_8), (hb_ HB hw299_9), (hb_ HB hw299_10), (hb_ HB hw299_11)⟩ (fun hHeld => ?_)
        clear hK K
        refine nm_ ?_
        refine plx_ 9 (tf 10 0) ?_
        refine done_ (done_of HT_.out (by kernel_rfl)) ?_
        try go_wp2
        go_roundg k1
        case measure => have := HK1.out; omega
        case rel => exact ⟨(wrap64 (x5_1 + 1)), rs_, H', ⟨by have := HK1.out; omega⟩, ⟨bb_⟩⟩
       ·replace c8 := Bool.eq_false_iff.mpr c8
        subst c8
        have H1 : (some false) = some r := by rw [if_neg (show ¬ (false = true) by decide)] at H; exact H
        clear H
        have H := H1
        clear H1
        obtain rfl := Option.some.inj H
        try go_wp2
        replace HB := Aside0.mk (below_drew1 HB.out)
        have p298 : 0 ≤ (x5_1 : Int) := of_decide_eq_true (by first | (with_reducible assumption) | assumption)
        have q298 : x5_1 < (l0.length : Int) := of_decide_eq_true (by first | (with_reducible assumption) | assumption)
        obtain ⟨ad298, A298_8, c298_8, A298_9, c298_9, A298_11, c298_11, e298, hx298_0, hx298_1, hx298_2, hx298_3, hx298_4, hx298_5, hx298_6, hx298_7, hx298_8, hx298_9, hx298_10, hx298_11, hl298_8, hi298_8, hl298_9, hi298_9, hl298_11, hi298_11⟩ := at_T70 HR0.out x5_1 p298 q298
        have hw298_11 := hx298_11
        have hw298_10 := hx298_10
        have hw298_9 := hx298_9
        have hw298_8 := hx298_8
        have hw298_7 := hx298_7
        have hw298_6 := hx298_6
        have hw298_5 := hx298_5
        have hw298_4 := hx298_4
        have hw298_3 := hx298_3
        have hw298_2 := hx298_2
        have hw298_1 := hx298_1
        have hw298_0 := hx298_0
        cases e298
        replace hx298_0 := hb_ HB hx298_0
        replace hx298_1 := hb_ HB hx298_1
        replace hx298_2 := hb_ HB hx298_2
        replace hx298_3 := hb_ HB hx298_3
        replace hx298_4 := hb_ HB hx298_4
        replace hx298_5 := hb_ HB hx298_5
        replace hx298_6 := hb_ HB hx298_6
        replace hx298_7 := hb_ HB hx298_7
        replace hx298_8 := hb_ HB hx298_8
        replace hx298_9 := hb_ HB hx298_9
        replace hx298_10 := hb_ HB hx298_10
        replace hx298_11 := hb_ HB hx298_11
        have HR298_8 := Aside0.mk hi298_8
        have HC298_8 := Aside0.mk hl298_8
        clear hi298_8 hl298_8
        have HR298_9 := Aside0.mk hi298_9
        have HC298_9 := Aside0.mk hl298_9
        clear hi298_9 hl298_9
        have HR298_11 := Aside0.mk hi298_11
        have HC298_11 := Aside0.mk hl298_11
        clear hi298_11 hl298_11
        replace p298 := eq_true p298
        replace q298 := eq_true q298
        have p299 : 0 ≤ (x5_1 : Int) := of_decide_eq_true (by first | (with_reducible assumption) | assumption)
        have q299 : x5_1 < (l1.length : Int) := of_decide_eq_true (by first | (with_reducible assumption) | assumption)
        obtain ⟨ad299, A299_8, c299_8, A299_9, c299_9, A299_11, c299_11, e299, hx299_0, hx299_1, hx299_2, hx299_3, hx299_4, hx299_5, hx299_6, hx299_7, hx299_8, hx299_9, hx299_10, hx299_11, hl299_8, hi299_8, hl299_9, hi299_9, hl299_11, hi299_11⟩ := at_T70 HR1.out x5_1 p299 q299
        have hw299_11 := hx299_11
        have hw299_10 := hx299_10
        have hw299_9 := hx299_9
        have hw299_8 := hx299_8
        have hw299_7 := hx299_7
        have hw299_6 := hx299_6
        have hw299_5 := hx299_5
        have hw299_4 := hx299_4
        have hw299_3 := hx299_3
        have hw299_2 := hx299_2
        have hw299_1 := hx299_1
        have hw299_0 := hx299_0
        cases e299
        replace hx299_0 := hb_ HB hx299_0
        replace hx299_1 := hb_ HB hx299_1
        replace hx299_2 := hb_ HB hx299_2
        replace hx299_3 := hb_ HB hx299_3
        replace hx299_4 := hb_ HB hx299_4
        replace hx299_5 := hb_ HB hx299_5
        replace hx299_6 := hb_ HB hx299_6
        replace hx299_7 := hb_ HB hx299_7
        replace hx299_8 := hb_ HB hx299_8
        replace hx299_9 := hb_ HB hx299_9
        replace hx299_10 := hb_ HB hx299_10
        replace hx299_11 := hb_ HB hx299_11
        have HR299_8 := Aside0.mk hi299_8
        have HC299_8 := Aside0.mk hl299_8
        clear hi299_8 hl299_8
        have HR299_9 := Aside0.mk hi299_9
        have HC299_9 := Aside0.mk hl299_9
        clear hi299_9 hl299_9
        have HR299_11 := Aside0.mk hi299_11
        have HC299_11 := Aside0.mk hl299_11
        clear hi299_11 hl299_11
        replace p299 := eq_true p299
        replace q299 := eq_true q299
        refine start_ (n := 10) (S := fun w' => w'.cell? (ad298.add ((x5_1).toNat * 12)) = some (.int .i64 ((rd_T70 l0 x5_1).f0)) ∧ w'.cell? ⟨(ad298.add ((x5_1).toNat * 12)).block, (ad298.add ((x5_1).toNat * 12)).off + 1, none⟩ = some (.string ((rd_T70 l0 x5_1).f1)) ∧ w'.cell? ⟨(ad298.add ((x5_1).toNat * 12)).block, (ad298.add ((x5_1).toNat * 12)).off + 2, none⟩ = some (.int .i64 ((rd_T70 l0 x5_1).f2.f0)) ∧ w'.cell? ⟨(ad298.add ((x5_1).toNat * 12)).block, (ad298.add ((x5_1).toNat * 12)).off + 3, none⟩ = some (.int .i64 ((rd_T70 l0 x5_1).f2.f1)) ∧ w'.cell? ⟨(ad298.add ((x5_1).toNat * 12)).block, (ad298.add ((x5_1).toNat * 12)).off + 4, none⟩ = some (.int .i64 ((rd_T70 l0 x5_1).f2.f2.f0)) ∧ w'.cell? ⟨(ad298.add ((x5_1).toNat * 12)).block, (ad298.add ((x5_1).toNat * 12)).off + 5, none⟩ = some (.int .i64 ((rd_T70 l0 x5_1).f2.f2.f1)) ∧ w'.cell? ⟨(ad298.add ((x5_1).toNat * 12)).block, (ad298.add ((x5_1).toNat * 12)).off + 6, none⟩ = some (.string ((rd_T70 l0 x5_1).f2.f2.f2)) ∧ w'.cell? ⟨(ad298.add ((x5_1).toNat * 12)).block, (ad298.add ((x5_1).toNat * 12)).off + 7, none⟩ = some (.string ((rd_T70 l0 x5_1).f2.f3)) ∧ w'.cell? ⟨(ad298.add ((x5_1).toNat * 12)).block, (ad298.add ((x5_1).toNat * 12)).off + 8, none⟩ = some (.slice A298_8 ((rd_T70 l0 x5_1).f2.f4).length c298_8) ∧ w'.cell? ⟨(ad298.add ((x5_1).toNat * 12)).block, (ad298.add ((x5_1).toNat * 12)).off + 9, none⟩ = some (.slice A298_9 ((rd_T70 l0 x5_1).f3).length c298_9) ∧ w'.cell? ⟨(ad298.add ((x5_1).toNat * 12)).block, (ad298.add ((x5_1).toNat * 12)).off + 10, none⟩ = some (.int .i64 ((rd_T70 l0 x5_1).f4)) ∧ w'.cell? ⟨(ad298.add ((x5_1).toNat * 12)).block, (ad298.add ((x5_1).toNat * 12)).off + 11, none⟩ = some (.slice A298_11 ((rd_T70 l0 x5_1).f5).length c298_11) ∧ w'.cell? (ad299.add ((x5_1).toNat * 12)) = some (.int .i64 ((rd_T70 l1 x5_1).f0)) ∧ w'.cell? ⟨(ad299.add ((x5_1).toNat * 12)).block, (ad299.add ((x5_1).toNat * 12)).off + 1, none⟩ = some (.string ((rd_T70 l1 x5_1).f1)) ∧ w'.cell? ⟨(ad299.add ((x5_1).toNat * 12)).block, (ad299.add ((x5_1).toNat * 12)).off + 2, none⟩ = some (.int .i64 ((rd_T70 l1 x5_1).f2.f0)) ∧ w'.cell? ⟨(ad299.add ((x5_1).toNat * 12)).block, (ad299.add ((x5_1).toNat * 12)).off + 3, none⟩ = some (.int .i64 ((rd_T70 l1 x5_1).f2.f1)) ∧ w'.cell? ⟨(ad299.add ((x5_1).toNat * 12)).block, (ad299.add ((x5_1).toNat * 12)).off + 4, none⟩ = some (.int .i64 ((rd_T70 l1 x5_1).f2.f2.f0)) ∧ w'.cell? ⟨(ad299.add ((x5_1).toNat * 12)).block, (ad299.add ((x5_1).toNat * 12)).off + 5, none⟩ = some (.int .i64 ((rd_T70 l1 x5_1).f2.f2.f1)) ∧ w'.cell? ⟨(ad299.add ((x5_1).toNat * 12)).block, (ad299.add ((x5_1).toNat * 12)).off + 6, none⟩ = some (.string ((rd_T70 l1 x5_1).f2.f2.f2)) ∧ w'.cell? ⟨(ad299.add ((x5_1).toNat * 12)).block, (ad299.add ((x5_1).toNat * 12)).off + 7, none⟩ = some (.string ((rd_T70 l1 x5_1).f2.f3)) ∧ w'.cell? ⟨(ad299.add ((x5_1).toNat * 12)).block, (ad299.add ((x5_1).toNat * 12)).off + 8, none⟩ = some (.slice A299_8 ((rd_T70 l1 x5_1).f2.f4).length c299_8) ∧ w'.cell? ⟨(ad299.add ((x5_1).toNat * 12)).block, (ad299.add ((x5_1).toNat * 12)).off + 9, none⟩ = some (.slice A299_9 ((rd_T70 l1 x5_1).f3).length c299_9) ∧ w'.cell? ⟨(ad299.add ((x5_1).toNat * 12)).block, (ad299.add ((x5_1).toNat * 12)).off + 10, none⟩ = some (.int .i64 ((rd_T70 l1 x5_1).f4)) ∧ w'.cell? ⟨(ad299.add ((x5_1).toNat * 12)).block, (ad299.add ((x5_1).toNat * 12)).off + 11, none⟩ = some (.slice A299_11 ((rd_T70 l1 x5_1).f5).length c299_11)) (ds := []) (tf 0 10) (by kernel_rfl) rfl rfl ⟨(hb_ HB hw298_0), (hb_ HB hw298_1), (hb_ HB hw298_2), (hb_ HB hw298_3), (hb_ HB hw298_4), (hb_ HB hw298_5), (hb_ HB hw298_6), (hb_ HB hw298_7), (hb_ HB hw298_8), (hb_ HB hw298_9), (hb_ HB hw298_10), (hb_ HB hw298_11), (hb_ HB hw299_0), (hb_ HB hw299_1), (hb_ HB hw299_2), (hb_ HB hw299_3), (hb_ HB hw299_4), (hb_ HB hw299_5), (hb_ HB hw299_6), (hb_ HB hw299_7), (hb_ HB hw299_8), (hb_ HB hw299_9), (hb_ HB hw299_10), (hb_ HB hw299_11)⟩ (fun hHeld => ?_); refine with_tabW laws_eqPlanS.tab6 laws_eqPlanS.bits6 (fun HT_ HW_ => ?_)
        generalize wr.drew = w11 at HB HR298_11 HR298_8 HR298_9 HR299_11 HR299_8 HR299_9 hx298_0 hx298_1 hx298_10 hx298_11 hx298_2 hx298_3 hx298_4 hx298_5 hx298_6 hx298_7 hx298_8 hx298_9 hx299_0 hx299_1 hx299_10 hx299_11 hx299_2 hx299_3 hx299_4 hx299_5 hx299_6 hx299_7 hx299_8 hx299_9 hHeld ⊢
        iterate 3 (refine pl_ ?_)
        refine plx_ 4 #[true, true, true, false, true, false, false, false, false, false] ?_
        refine plx_ 5 #[true, true, true, false, true, true, false, false, false, false] ?_
        refine plx_ 6 #[true, true, true, false, true, true, true, false, false, false] ?_
        refine tlx_ 3 (tf 7 3) ?_
        refine tl_ ?_
        refine one_ (i := 8) (N := some 25) (tf 9 1) rfl rfl (one_of HT_.out (by kernel_rfl)) (by decide) (fun K hK => ?_)
        refine gs_ Tryd.func41 #[.agg #[.int .i64 ((rd_T70 l0 x5_1).f0), .string ((rd_T70 l0 x5_1).f1), .int .i64 ((rd_T70 l0 x5_1).f2.f0), .int .i64 ((rd_T70 l0 x5_1).f2.f1), .int .i64 ((rd_T70 l0 x5_1).f2.f2.f0), .int .i64 ((rd_T70 l0 x5_1).f2.f2.f1), .string ((rd_T70 l0 x5_1).f2.f2.f2), .string ((rd_T70 l0 x5_1).f2.f3), .slice A298_8 ((rd_T70 l0 x5_1).f2.f4).length c298_8, .slice A298_9 ((rd_T70 l0 x5_1).f3).length c298_9, .int .i64 ((rd_T70 l0 x5_1).f4), .slice A298_11 ((rd_T70 l0 x5_1).f5).length c298_11], .agg #[.int .i64 ((rd_T70 l1 x5_1).f0), .string ((rd_T70 l1 x5_1).f1), .int .i64 ((rd_T70 l1 x5_1).f2.f0), .int .i64 ((rd_T70 l1 x5_1).f2.f1), .int .i64 ((rd_T70 l1 x5_1).f2.f2.f0), .int .i64 ((rd_T70 l1 x5_1).f2.f2.f1), .string ((rd_T70 l1 x5_1).f2.f2.f2), .string ((rd_T70 l1 x5_1).f2.f3), .slice A299_8 ((rd_T70 l1 x5_1).f2.f4).length c299_8, .slice A299_9 ((rd_T70 l1 x5_1).f3).length c299_9, .int .i64 ((rd_T70 l1 x5_1).f4), .slice A299_11 ((rd_T70 l1 x5_1).f5).length c299_11]] ?_
        with_reducible refine (hE_ ((rd_T70 l0 x5_1).f0) ((rd_T70 l0 x5_1).f1) ((rd_T70 l0 x5_1).f2.f0) ((rd_T70 l0 x5_1).f2.f1) ((rd_T70 l0 x5_1).f2.f2.f0) ((rd_T70 l0 x5_1).f2.f2.f1) ((rd_T70 l0 x5_1).f2.f2.f2) ((rd_T70 l0 x5_1).f2.f3) _ _ ((rd_T70 l0 x5_1).f2.f4) _ _ ((rd_T70 l0 x5_1).f3) ((rd_T70 l0 x5_1).f4) _ _ ((rd_T70 l0 x5_1).f5) ((rd_T70 l1 x5_1).f0) ((rd_T70 l1 x5_1).f1) ((rd_T70 l1 x5_1).f2.f0) ((rd_T70 l1 x5_1).f2.f1) ((rd_T70 l1 x5_1).f2.f2.f0) ((rd_T70 l1 x5_1).f2.f2.f1) ((rd_T70 l1 x5_1).f2.f2.f2) ((rd_T70 l1 x5_1).f2.f3) _ _ ((rd_T70 l1 x5_1).f2.f4) _ _ ((rd_T70 l1 x5_1).f3) ((rd_T70 l1 x5_1).f4) _ _ ((rd_T70 l1 x5_1).f5) false _ ?side1 ?side2 ?side3 ?side4 ?side5 ?side6 ?side7 ?side8 ?side9 ?side10 ?side11 ?side12 A7.out).mono ?_
        (case side1 => exact ck_ (Kd.C_below HR298_8.out HB.out))
        (case side2 => exact HC298_8.out)
        (case side3 => exact ck_ (Kd.C_below HR298_9.out HB.out))
        (case side4 => exact HC298_9.out)
        (case side5 => exact ck_ (Kd.C_below HR298_11.out HB.out))
        (case side6 => exact HC298_11.out)
        (case side7 => exact ck_ (Kd.C_below HR299_8.out HB.out))
        (case side8 => exact HC299_8.out)
        (case side9 => exact ck_ (Kd.C_below HR299_9.out HB.out))
        (case side10 => exact HC299_9.out)
        (case side11 => exact ck_ (Kd.C_below HR299_11.out HB.out))
        (case side12 => exact HC299_11.out)
        rintro e w12 ⟨rfl, hb⟩
        refine ⟨_, rfl, ?_⟩
        replace HB := bs_ hb
        (try clear hb)
        (try clear hb2)
        (try clear hk)
        (try clear hi)
        refine hK.out _ _ ⟨(hb_ HB hw298_0), (hb_ HB hw298_1), (hb_ HB hw298_2), (hb_ HB hw298_3), (hb_ HB hw298_4), (hb_ HB hw298_5), (hb_ HB hw298_6), (hb_ HB hw298_7), (hb_ HB hw298_8), (hb_ HB hw298_9), (hb_ HB hw298_10), (hb_ HB hw298_11), (hb_ HB hw299_0), (hb_ HB hw299_1), (hb_ HB hw299_2), (hb_ HB hw299_3), (hb_ HB hw299_4), (hb_ HB hw299_5), (hb_ HB hw299_6), (hb_ HB hw299_7), (hb_ HB hw299_8), (hb_ HB hw299_9), (hb_ HB hw299_10), (hb_ HB hw299_11)⟩ (fun hHeld => ?_)
        clear hK K
        refine nm_ ?_
        refine plx_ 9 (tf 10 0) ?_
        refine done_ (done_of HT_.out (by kernel_rfl)) ?_
        try go_wp2
        go_ret
        exact ⟨er_, bb_⟩
      ·rw [if_neg c6] at H
       exact absurd H (by simp)
     ·rw [if_neg c5] at H
      exact absurd H (by simp)
    ·rw [if_neg c4] at H
     have c4b0 : decide (x5_1 < (l0.length : Int)) = false := decide_eq_false c4
     clear c4
     obtain rfl := Option.some.inj H
     go_wp2
     go_ret
     exact ⟨er_, bb_⟩
 ·rw [if_neg c3] at H
  have c3b0 : ((l0.length : Int) == (l1.length : Int)) = false := beq_eq_false_iff_ne.mpr c3
  have c3b1 : ((l0.length : Int) != (l1.length : Int)) = true := bne_iff_ne.mpr c3
  have c3b2 : (l0.length == l1.length) = false := by first | simpa using c3 | (simp at c3 ⊢; omega)
  obtain rfl := Option.some.inj H
  go_enter Tryd.func85, Tryd.ntmps85
  go_wp2
  go_ret
  exact ⟨er_, bb_⟩

/-! ### laws_eqPlan: function 41 -/
def laws_eqPlan.f : Nat → Int → ByteArray → Int → Int → Int → Int → ByteArray → ByteArray → (List (S32)) → (List (S32)) → Int → (List (S70)) → Int → ByteArray → Int → Int → Int → Int → ByteArray → ByteArray → (List (S32)) → (List (S32)) → Int → (List (S70)) → Option (Bool)
 | 0, _, _, _, _, _, _, _, _, _, _, _, _, _, _, _, _, _, _, _, _, _, _, _, _ => none
 | k + 1, a0_0, a0_1, a0_2, a0_3, a0_4, a0_5, a0_6, a0_7, l0_8, l0_9, a0_10, l0_11, a1_0, a1_1, a1_2, a1_3, a1_4, a1_5, a1_6, a1_7, l1_8, l1_9, a1_10, l1_11 => if a0_0 = a1_0 then (if a0_1.toList = a1_1.toList then ((laws_eqExp.f k a0_2 a0_3 a0_4 a0_5 a0_6 a0_7 l0_8 a1_2 a1_3 a1_4 a1_5 a1_6 a1_7 l1_8).bind fun t303 => (if t303 = true then ((laws_eqExpS.f (laws_eqExp.f k) k l0_9 l1_9).bind fun t304 => (if t304 = true then (if a0_10 = a1_10 then ((laws_eqPlanS.f (laws_eqPlan.f k) k l0_11 l1_11).bind fun t305 => (if t305 = true then (some true) else (some false))) else (some false)) else (some false))) else (some false))) else (some false)) else (some false)
set_option maxHeartbeats 8000000 in
set_option maxRecDepth 100000 in
theorem laws_eqPlan.calls : ∀ (k : Nat) (a0_0 : Int) (a0_1 : ByteArray) (a0_2 : Int) (a0_3 : Int) (a0_4 : Int) (a0_5 : Int) (a0_6 : ByteArray) (a0_7 : ByteArray) (A0_8 : Option Addr) (c0_8 : Nat) (l0_8 : List (S32)) (A0_9 : Option Addr) (c0_9 : Nat) (l0_9 : List (S32)) (a0_10 : Int) (A0_11 : Option Addr) (c0_11 : Nat) (l0_11 : List (S70)) (a1_0 : Int) (a1_1 : ByteArray) (a1_2 : Int) (a1_3 : Int) (a1_4 : Int) (a1_5 : Int) (a1_6 : ByteArray) (a1_7 : ByteArray) (A1_8 : Option Addr) (c1_8 : Nat) (l1_8 : List (S32)) (A1_9 : Option Addr) (c1_9 : Nat) (l1_9 : List (S32)) (a1_10 : Int) (A1_11 : Option Addr) (c1_11 : Nat) (l1_11 : List (S70)) (r : Bool) (w : World) (hr0_8 : Kd.C k32 w A0_8 l0_8.length l0_8) (hc0_8 : l0_8.length ≤ c0_8) (hr0_9 : Kd.C k32 w A0_9 l0_9.length l0_9) (hc0_9 : l0_9.length ≤ c0_9) (hr0_11 : Kd.C k70 w A0_11 l0_11.length l0_11) (hc0_11 : l0_11.length ≤ c0_11) (hr1_8 : Kd.C k32 w A1_8 l1_8.length l1_8) (hc1_8 : l1_8.length ≤ c1_8) (hr1_9 : Kd.C k32 w A1_9 l1_9.length l1_9) (hc1_9 : l1_9.length ≤ c1_9) (hr1_11 : Kd.C k70 w A1_11 l1_11.length l1_11) (hc1_11 : l1_11.length ≤ c1_11) (h : laws_eqPlan.f k a0_0 a0_1 a0_2 a0_3 a0_4 a0_5 a0_6 a0_7 l0_8 l0_9 a0_10 l0_11 a1_0 a1_1 a1_2 a1_3 a1_4 a1_5 a1_6 a1_7 l1_8 l1_9 a1_10 l1_11 = some r),
  Calls Tryd.prog 41 #[.agg #[.int .i64 a0_0, .string a0_1, .int .i64 a0_2, .int .i64 a0_3, .int .i64 a0_4, .int .i64 a0_5, .string a0_6, .string a0_7, .slice A0_8 l0_8.length c0_8, .slice A0_9 l0_9.length c0_9, .int .i64 a0_10, .slice A0_11 l0_11.length c0_11], .agg #[.int .i64 a1_0, .string a1_1, .int .i64 a1_2, .int .i64 a1_3, .int .i64 a1_4, .int .i64 a1_5, .string a1_6, .string a1_7, .slice A1_8 l1_8.length c1_8, .slice A1_9 l1_9.length c1_9, .int .i64 a1_10, .slice A1_11 l1_11.length c1_11]] w fun e w' => e = .returned (.bool r) ∧ Below w.heap.size w w' := by
 intro k
 induction k with
 | zero =>
  intro a0_0 a0_1 a0_2 a0_3 a0_4 a0_5 a0_6 a0_7 A0_8 c0_8 l0_8 A0_9 c0_9 l0_9 a0_10 A0_11 c0_11 l0_11 a1_0 a1_1 a1_2 a1_3 a1_4 a1_5 a1_6 a1_7 A1_8 c1_8 l1_8 A1_9 c1_9 l1_9 a1_10 A1_11 c1_11 l1_11 r w hr0_8 hc0_8 hr0_9 hc0_9 hr0_11 hc0_11 hr1_8 hc1_8 hr1_9 hc1_9 hr1_11 hc1_11 h
  exact absurd h (by simp [laws_eqPlan.f])
 | succ k ih_ =>
  intro a0_0 a0_1 a0_2 a0_3 a0_4 a0_5 a0_6 a0_7 A0_8 c0_8 l0_8 A0_9 c0_9 l0_9 a0_10 A0_11 c0_11 l0_11 a1_0 a1_1 a1_2 a1_3 a1_4 a1_5 a1_6 a1_7 A1_8 c1_8 l1_8 A1_9 c1_9 l1_9 a1_10 A1_11 c1_11 l1_11 r w hr0_8 hc0_8 hr0_9 hc0_9 hr0_11 hc0_11 hr1_8 hc1_8 hr1_9 hc1_9 hr1_11 hc1_11 h
  have hu70 := Tryd.underlying70
  have hu32 := Tryd.underlying32
  have HR0_8 := Aside0.mk hr0_8
  have HC0_8 := Aside0.mk hc0_8
  clear hr0_8 hc0_8
  have HR0_9 := Aside0.mk hr0_9
  have HC0_9 := Aside0.mk hc0_9
  clear hr0_9 hc0_9
  have HR0_11 := Aside0.mk hr0_11
  have HC0_11 := Aside0.mk hc0_11
  clear hr0_11 hc0_11
  have HR1_8 := Aside0.mk hr1_8
  have HC1_8 := Aside0.mk hc1_8
  clear hr1_8 hc1_8
  have HR1_9 := Aside0.mk hr1_9
  have HC1_9 := Aside0.mk hc1_9
  clear hr1_9 hc1_9
  have HR1_11 := Aside0.mk hr1_11
  have HC1_11 := Aside0.mk hc1_11
  clear hr1_11 hc1_11
  have HB := Aside0.mk (Below.refl w.heap.size w)
  have H : (if a0_0 = a1_0 then (if a0_1.toList = a1_1.toList then ((laws_eqExp.f k a0_2 a0_3 a0_4 a0_5 a0_6 a0_7 l0_8 a1_2 a1_3 a1_4 a1_5 a1_6 a1_7 l1_8).bind fun t303 => (if t303 = true then ((laws_eqExpS.f (laws_eqExp.f k) k l0_9 l1_9).bind fun t304 => (if t304 = true then (if a0_10 = a1_10 then ((laws_eqPlanS.f (laws_eqPlan.f k) k l0_11 l1_11).bind fun t305 => (if t305 = true then (some true) else (some false))) else (some false)) else (some false))) else (some false))) else (some false)) else (some false)) = some r := h
  clear h
  by_cases c3 : a0_0 = a1_0
  ·rw [if_pos c3] at H
   have c3b0 : (a0_0 == a1_0) = true := beq_iff_eq.mpr c3
   have c3b1 : (a0_0 != a1_0) = false := bne_eq_false_iff_eq.mpr c3
   clear c3
   by_cases c4 : a0_1.toList = a1_1.toList
   ·rw [if_pos c4] at H
    have c4b0 : (a0_1.toList == a1_1.toList) = true := beq_iff_eq.mpr c4
    have c4b1 : (a0_1.toList != a1_1.toList) = false := bne_eq_false_iff_eq.mpr c4
    clear c4
    replace H := Option.bind_eq_some_iff.mp H
    obtain ⟨t303, A50, H⟩ := H
    replace H : (if t303 = true then ((laws_eqExpS.f (laws_eqExp.f k) k l0_9 l1_9).bind fun t304 => (if t304 = true then (if a0_10 = a1_10 then ((laws_eqPlanS.f (laws_eqPlan.f k) k l0_11 l1_11).bind fun t305 => (if t305 = true then (some true) else (some false))) else (some false)) else (some false))) else (some false)) = some r := H
    have A5 := Aside0.mk A50
    clear A50
    by_cases c6 : t303 = true
    ·subst c6
     have H1 : ((laws_eqExpS.f (laws_eqExp.f k) k l0_9 l1_9).bind fun t304 => (if t304 = true then (if a0_10 = a1_10 then ((laws_eqPlanS.f (laws_eqPlan.f k) k l0_11 l1_11).bind fun t305 => (if t305 = true then (some true) else (some false))) else (some false)) else (some false))) = some r := by rw [if_pos rfl] at H; exact H
     clear H
     have H := H1
     clear H1
     replace H := Option.bind_eq_some_iff.mp H
     obtain ⟨t304, A70, H⟩ := H
     replace H : (if t304 = true then (if a0_10 = a1_10 then ((laws_eqPlanS.f (laws_eqPlan.f k) k l0_11 l1_11).bind fun t305 => (if t305 = true then (some true) else (some false))) else (some false)) else (some false)) = some r := H
     have A7 := Aside0.mk A70
     clear A70
     by_cases c8 : t304 = true
     ·subst c8
      have H1 : (if a0_10 = a1_10 then ((laws_eqPlanS.f (laws_eqPlan.f k) k l0_11 l1_11).bind fun t305 => (if t305 = true then (some true) else (some false))) else (some false)) = some r := by rw [if_pos rfl] at H; exact H
      clear H
      have H := H1
      clear H1
      by_cases c9 : a0_10 = a1_10
      ·rw [if_pos c9] at H
       have c9b0 : (a0_10 == a1_10) = true := beq_iff_eq.mpr c9
       have c9b1 : (a0_10 != a1_10) = false := bne_eq_false_iff_eq.mpr c9
       clear c9
       replace H := Option.bind_eq_some_iff.mp H
       obtain ⟨t305, A100, H⟩ := H
       replace H : (if t305 = true then (some true) else (some false)) = some r := H
       have A10 := Aside0.mk A100
       clear A100
       by_cases c11 : t305 = true
       ·subst c11
        have H1 : (some true) = some r := by rw [if_pos rfl] at H; exact H
        clear H
        have H := H1
        clear H1
        obtain rfl := Option.some.inj H
        go_enter Tryd.func41, Tryd.ntmps41
        go_wp2_with (first | ((with_reducible refine gate_dst (N := 2) rfl ?_); refine bx_ 2 #[.int .i64 a0_0, .string a0_1, .int .i64 a0_2, .int .i64 a0_3, .int .i64 a0_4, .int .i64 a0_5, .string a0_6, .string a0_7, .slice A0_8 l0_8.length c0_8, .slice A0_9 l0_9.length c0_9, .int .i64 a0_10, .slice A0_11 l0_11.length c0_11] 70 ?_; intro gb301 hg w12 hbox hb; have BK301 := Aside0.mk (hbox); have GW301 := gw_ hg; have GE301 := gw_ hg; replace HB := bs_ hb; clear hb hbox hg) | ((with_reducible refine gate_dst (N := 3) rfl ?_); refine bx_ 3 #[.int .i64 a1_0, .string a1_1, .int .i64 a1_2, .int .i64 a1_3, .int .i64 a1_4, .int .i64 a1_5, .string a1_6, .string a1_7, .slice A1_8 l1_8.length c1_8, .slice A1_9 l1_9.length c1_9, .int .i64 a1_10, .slice A1_11 l1_11.length c1_11] 70 ?_; intro gb302 hg w13 hbox hb; have BK302 := Aside0.mk (hbox); have GW302 := gw_ hg; have GE302 := gw_ hg; have NB301_302 := nl_ hg BK301; have NB302_301 := ng_ hg BK301; replace BK301 := bkb_ BK301 hb; replace HB := bs_ hb; clear hb hbox hg; have hnb14 := NB301_302.out; have hnc14 := NB302_301.out; obtain ⟨hcz15_0, hcz15_1, hcz15_2, hcz15_3, hcz15_4, hcz15_5, hcz15_6, hcz15_7, hcz15_8, hcz15_9, hcz15_10, hcz15_11, hfz15_0, hfz15_1, hfz15_2, hfz15_3, hfz15_4, hfz15_5, hfz15_6, hfz15_7, hfz15_8, hfz15_9, hfz15_10, hfz15_11⟩ := b12_ BK301; obtain ⟨hcz16_0, hcz16_1, hcz16_2, hcz16_3, hcz16_4, hcz16_5, hcz16_6, hcz16_7, hcz16_8, hcz16_9, hcz16_10, hcz16_11, hfz16_0, hfz16_1, hfz16_2, hfz16_3, hfz16_4, hfz16_5, hfz16_6, hfz16_7, hfz16_8, hfz16_9, hfz16_10, hfz16_11⟩ := b12_ BK302) | ((with_reducible refine gate_callee (f := 11) rfl ?_); refine gsL_ (some 19) Tryd.func11 #[.agg #[.int .i64 a0_2, .int .i64 a0_3, .int .i64 a0_4, .int .i64 a0_5, .string a0_6, .string a0_7, .slice A0_8 l0_8.length c0_8], .agg #[.int .i64 a1_2, .int .i64 a1_3, .int .i64 a1_4, .int .i64 a1_5, .string a1_6, .string a1_7, .slice A1_8 l1_8.length c1_8]] ?_; (with_reducible refine (laws_eqExp.calls k a0_2 a0_3 a0_4 a0_5 a0_6 a0_7 _ _ l0_8 a1_2 a1_3 a1_4 a1_5 a1_6 a1_7 _ _ l1_8 true _ ?side1 ?side2 ?side3 ?side4 A5.out).mono ?_); (case side1 => exact ck_ (Kd.C_below HR0_8.out HB.out)); (case side2 => exact HC0_8.out); (case side3 => exact ck_ (Kd.C_below HR1_8.out HB.out)); (case side4 => exact HC1_8.out); rintro e w17 ⟨rfl, hb⟩; refine ⟨_, rfl, ?_⟩; replace BK301 := bkb_ BK301 hb; replace BK302 := bkb_ BK302 hb; replace HB := bs_ hb; (try clear hb); (try clear hb2); (try clear hk); (try clear hi); obtain ⟨hcz18_0, hcz18_1, hcz18_2, hcz18_3, hcz18_4, hcz18_5, hcz18_6, hcz18_7, hcz18_8, hcz18_9, hcz18_10, hcz18_11, hfz18_0, hfz18_1, hfz18_2, hfz18_3, hfz18_4, hfz18_5, hfz18_6, hfz18_7, hfz18_8, hfz18_9, hfz18_10, hfz18_11⟩ := b12_ BK301; obtain ⟨hcz19_0, hcz19_1, hcz19_2, hcz19_3, hcz19_4, hcz19_5, hcz19_6, hcz19_7, hcz19_8, hcz19_9, hcz19_10, hcz19_11, hfz19_0, hfz19_1, hfz19_2, hfz19_3, hfz19_4, hfz19_5, hfz19_6, hfz19_7, hfz19_8, hfz19_9, hfz19_10, hfz19_11⟩ := b12_ BK302) | ((with_reducible refine gate_callee (f := 51) rfl ?_); refine gsL_ (some 25) Tryd.func51 #[.slice A0_9 l0_9.length c0_9, .slice A1_9 l1_9.length c1_9] ?_; (with_reducible refine (laws_eqExpS.calls (laws_eqExp.f k) (laws_eqExp.calls k) k _ _ l0_9 _ _ l1_9 true _ ?side1 ?side2 ?side3 ?side4 A7.out).mono ?_); (case side1 => exact ck_ (Kd.C_below HR0_9.out HB.out)); (case side2 => exact HC0_9.out); (case side3 => exact ck_ (Kd.C_below HR1_9.out HB.out)); (case side4 => exact HC1_9.out); rintro e w20 ⟨rfl, hb⟩; refine ⟨_, rfl, ?_⟩; replace BK301 := bkb_ BK301 hb; replace BK302 := bkb_ BK302 hb; replace HB := bs_ hb; (try clear hb); (try clear hb2); (try clear hk); (try clear hi); obtain ⟨hcz21_0, hcz21_1, hcz21_2, hcz21_3, hcz21_4, hcz21_5, hcz21_6, hcz21_7, hcz21_8, hcz21_9, hcz21_10, hcz21_11, hfz21_0, hfz21_1, hfz21_2, hfz21_3, hfz21_4, hfz21_5, hfz21_6, hfz21_7, hfz21_8, hfz21_9, hfz21_10, hfz21_11⟩ := b12_ BK301; obtain ⟨hcz22_0, hcz22_1, hcz22_2, hcz22_3, hcz22_4, hcz22_5, hcz22_6, hcz22_7, hcz22_8, hcz22_9, hcz22_10, hcz22_11, hfz22_0, hfz22_1, hfz22_2, hfz22_3, hfz22_4, hfz22_5, hfz22_6, hfz22_7, hfz22_8, hfz22_9, hfz22_10, hfz22_11⟩ := b12_ BK302) | ((with_reducible refine gate_callee (f := 85) rfl ?_); refine gsL_ (some 36) Tryd.func85 #[.slice A0_11 l0_11.length c0_11, .slice A1_11 l1_11.length c1_11] ?_; (with_reducible refine (laws_eqPlanS.calls (laws_eqPlan.f k) ih_ k _ _ l0_11 _ _ l1_11 true _ ?side1 ?side2 ?side3 ?side4 A10.out).mono ?_); (case side1 => exact ck_ (Kd.C_below HR0_11.out HB.out)); (case side2 => exact HC0_11.out); (case side3 => exact ck_ (Kd.C_below HR1_11.out HB.out)); (case side4 => exact HC1_11.out); rintro e w23 ⟨rfl, hb⟩; refine ⟨_, rfl, ?_⟩; replace BK301 := bkb_ BK301 hb; replace BK302 := bkb_ BK302 hb; replace HB := bs_ hb; (try clear hb); (try clear hb2); (try clear hk); (try clear hi)))
        go_ret
        exact ⟨er_, bb_⟩
       ·replace c11 := Bool.eq_false_iff.mpr c11
        subst c11
        have H1 : (some false) = some r := by rw [if_neg (show ¬ (false = true) by decide)] at H; exact H
        clear H
        have H := H1
        clear H1
        obtain rfl := Option.some.inj H
        go_enter Tryd.func41, Tryd.ntmps41
        go_wp2_with (first | ((with_reducible refine gate_dst (N := 2) rfl ?_); refine bx_ 2 #[.int .i64 a0_0, .string a0_1, .int .i64 a0_2, .int .i64 a0_3, .int .i64 a0_4, .int .i64 a0_5, .string a0_6, .string a0_7, .slice A0_8 l0_8.length c0_8, .slice A0_9 l0_9.length c0_9, .int .i64 a0_10, .slice A0_11 l0_11.length c0_11] 70 ?_; intro gb301 hg w24 hbox hb; have BK301 := Aside0.mk (hbox); have GW301 := gw_ hg; have GE301 := gw_ hg; replace HB := bs_ hb; clear hb hbox hg) | ((with_reducible refine gate_dst (N := 3) rfl ?_); refine bx_ 3 #[.int .i64 a1_0, .string a1_1, .int .i64 a1_2, .int .i64 a1_3, .int .i64 a1_4, .int .i64 a1_5, .string a1_6, .string a1_7, .slice A1_8 l1_8.length c1_8, .slice A1_9 l1_9.length c1_9, .int .i64 a1_10, .slice A1_11 l1_11.length c1_11] 70 ?_; intro gb302 hg w25 hbox hb; have BK302 := Aside0.mk (hbox); have GW302 := gw_ hg; have GE302 := gw_ hg; have NB301_302 := nl_ hg BK301; have NB302_301 := ng_ hg BK301; replace BK301 := bkb_ BK301 hb; replace HB := bs_ hb; clear hb hbox hg; have hnb26 := NB301_302.out; have hnc26 := NB302_301.out; obtain ⟨hcz27_0, hcz27_1, hcz27_2, hcz27_3, hcz27_4, hcz27_5, hcz27_6, hcz27_7, hcz27_8, hcz27_9, hcz27_10, hcz27_11, hfz27_0, hfz27_1, hfz27_2, hfz27_3, hfz27_4, hfz27_5, hfz27_6, hfz27_7, hfz27_8, hfz27_9, hfz27_10, hfz27_11⟩ := b12_ BK301; obtain ⟨hcz28_0, hcz28_1, hcz28_2, hcz28_3, hcz28_4, hcz28_5, hcz28_6, hcz28_7, hcz28_8, hcz28_9, hcz28_10, hcz28_11, hfz28_0, hfz28_1, hfz28_2, hfz28_3, hfz28_4, hfz28_5, hfz28_6, hfz28_7, hfz28_8, hfz28_9, hfz28_10, hfz28_11⟩ := b12_ BK302) | ((with_reducible refine gate_callee (f := 11) rfl ?_); refine gsL_ (some 19) Tryd.func11 #[.agg #[.int .i64 a0_2, .int .i64 a0_3, .int .i64 a0_4, .int .i64 a0_5, .string a0_6, .string a0_7, .slice A0_8 l0_8.length c0_8], .agg #[.int .i64 a1_2, .int .i64 a1_3, .int .i64 a1_4, .int .i64 a1_5, .string a1_6, .string a1_7, .slice A1_8 l1_8.length c1_8]] ?_; (with_reducible refine (laws_eqExp.calls k a0_2 a0_3 a0_4 a0_5 a0_6 a0_7 _ _ l0_8 a1_2 a1_3 a1_4 a1_5 a1_6 a1_7 _ _ l1_8 true _ ?side1 ?side2 ?side3 ?side4 A5.out).mono ?_); (case side1 => exact ck_ (Kd.C_below HR0_8.out HB.out)); (case side2 => exact HC0_8.out); (case side3 => exact ck_ (Kd.C_below HR1_8.out HB.out)); (case side4 => exact HC1_8.out); rintro e w29 ⟨rfl, hb⟩; refine ⟨_, rfl, ?_⟩; replace BK301 := bkb_ BK301 hb; replace BK302 := bkb_ BK302 hb; replace HB := bs_ hb; (try clear hb); (try clear hb2); (try clear hk); (try clear hi); obtain ⟨hcz30_0, hcz30_1, hcz30_2, hcz30_3, hcz30_4, hcz30_5, hcz30_6, hcz30_7, hcz30_8, hcz30_9, hcz30_10, hcz30_11, hfz30_0, hfz30_1, hfz30_2, hfz30_3, hfz30_4, hfz30_5, hfz30_6, hfz30_7, hfz30_8, hfz30_9, hfz30_10, hfz30_11⟩ := b12_ BK301; obtain ⟨hcz31_0, hcz31_1, hcz31_2, hcz31_3, hcz31_4, hcz31_5, hcz31_6, hcz31_7, hcz31_8, hcz31_9, hcz31_10, hcz31_11, hfz31_0, hfz31_1, hfz31_2, hfz31_3, hfz31_4, hfz31_5, hfz31_6, hfz31_7, hfz31_8, hfz31_9, hfz31_10, hfz31_11⟩ := b12_ BK302) | ((with_reducible refine gate_callee (f := 51) rfl ?_); refine gsL_ (some 25) Tryd.func51 #[.slice A0_9 l0_9.length c0_9, .slice A1_9 l1_9.length c1_9] ?_; (with_reducible refine (laws_eqExpS.calls (laws_eqExp.f k) (laws_eqExp.calls k) k _ _ l0_9 _ _ l1_9 true _ ?side1 ?side2 ?side3 ?side4 A7.out).mono ?_); (case side1 => exact ck_ (Kd.C_below HR0_9.out HB.out)); (case side2 => exact HC0_9.out); (case side3 => exact ck_ (Kd.C_below HR1_9.out HB.out)); (case side4 => exact HC1_9.out); rintro e w32 ⟨rfl, hb⟩; refine ⟨_, rfl, ?_⟩; replace BK301 := bkb_ BK301 hb; replace BK302 := bkb_ BK302 hb; replace HB := bs_ hb; (try clear hb); (try clear hb2); (try clear hk); (try clear hi); obtain ⟨hcz33_0, hcz33_1, hcz33_2, hcz33_3, hcz33_4, hcz33_5, hcz33_6, hcz33_7, hcz33_8, hcz33_9, hcz33_10, hcz33_11, hfz33_0, hfz33_1, hfz33_2, hfz33_3, hfz33_4, hfz33_5, hfz33_6, hfz33_7, hfz33_8, hfz33_9, hfz33_10, hfz33_11⟩ := b12_ BK301; obtain ⟨hcz34_0, hcz34_1, hcz34_2, hcz34_3, hcz34_4, hcz34_5, hcz34_6, hcz34_7, hcz34_8, hcz34_9, hcz34_10, hcz34_11, hfz34_0, hfz34_1, hfz34_2, hfz34_3, hfz34_4, hfz34_5, hfz34_6, hfz34_7, hfz34_8, hfz34_9, hfz34_10, hfz34_11⟩ := b12_ BK302) | ((with_reducible refine gate_callee (f := 85) rfl ?_); refine gsL_ (some 36) Tryd.func85 #[.slice A0_11 l0_11.length c0_11, .slice A1_11 l1_11.length c1_11] ?_; (with_reducible refine (laws_eqPlanS.calls (laws_eqPlan.f k) ih_ k _ _ l0_11 _ _ l1_11 false _ ?side1 ?side2 ?side3 ?side4 A10.out).mono ?_); (case side1 => exact ck_ (Kd.C_below HR0_11.out HB.out)); (case side2 => exact HC0_11.out); (case side3 => exact ck_ (Kd.C_below HR1_11.out HB.out)); (case side4 => exact HC1_11.out); rintro e w35 ⟨rfl, hb⟩; refine ⟨_, rfl, ?_⟩; replace BK301 := bkb_ BK301 hb; replace BK302 := bkb_ BK302 hb; replace HB := bs_ hb; (try clear hb); (try clear hb2); (try clear hk); (try clear hi)))
        go_ret
        exact ⟨er_, bb_⟩
      ·rw [if_neg c9] at H
       have c9b0 : (a0_10 == a1_10) = false := beq_eq_false_iff_ne.mpr c9
       have c9b1 : (a0_10 != a1_10) = true := bne_iff_ne.mpr c9
       obtain rfl := Option.some.inj H
       go_enter Tryd.func41, Tryd.ntmps41
       go_wp2_with (first | ((with_reducible refine gate_dst (N := 2) rfl ?_); refine bx_ 2 #[.int .i64 a0_0, .string a0_1, .int .i64 a0_2, .int .i64 a0_3, .int .i64 a0_4, .int .i64 a0_5, .string a0_6, .string a0_7, .slice A0_8 l0_8.length c0_8, .slice A0_9 l0_9.length c0_9, .int .i64 a0_10, .slice A0_11 l0_11.length c0_11] 70 ?_; intro gb301 hg w36 hbox hb; have BK301 := Aside0.mk (hbox); have GW301 := gw_ hg; have GE301 := gw_ hg; replace HB := bs_ hb; clear hb hbox hg) | ((with_reducible refine gate_dst (N := 3) rfl ?_); refine bx_ 3 #[.int .i64 a1_0, .string a1_1, .int .i64 a1_2, .int .i64 a1_3, .int .i64 a1_4, .int .i64 a1_5, .string a1_6, .string a1_7, .slice A1_8 l1_8.length c1_8, .slice A1_9 l1_9.length c1_9, .int .i64 a1_10, .slice A1_11 l1_11.length c1_11] 70 ?_; intro gb302 hg w37 hbox hb; have BK302 := Aside0.mk (hbox); have GW302 := gw_ hg; have GE302 := gw_ hg; have NB301_302 := nl_ hg BK301; have NB302_301 := ng_ hg BK301; replace BK301 := bkb_ BK301 hb; replace HB := bs_ hb; clear hb hbox hg; have hnb38 := NB301_302.out; have hnc38 := NB302_301.out; obtain ⟨hcz39_0, hcz39_1, hcz39_2, hcz39_3, hcz39_4, hcz39_5, hcz39_6, hcz39_7, hcz39_8, hcz39_9, hcz39_10, hcz39_11, hfz39_0, hfz39_1, hfz39_2, hfz39_3, hfz39_4, hfz39_5, hfz39_6, hfz39_7, hfz39_8, hfz39_9, hfz39_10, hfz39_11⟩ := b12_ BK301; obtain ⟨hcz40_0, hcz40_1, hcz40_2, hcz40_3, hcz40_4, hcz40_5, hcz40_6, hcz40_7, hcz40_8, hcz40_9, hcz40_10, hcz40_11, hfz40_0, hfz40_1, hfz40_2, hfz40_3, hfz40_4, hfz40_5, hfz40_6, hfz40_7, hfz40_8, hfz40_9, hfz40_10, hfz40_11⟩ := b12_ BK302) | ((with_reducible refine gate_callee (f := 11) rfl ?_); refine gsL_ (some 19) Tryd.func11 #[.agg #[.int .i64 a0_2, .int .i64 a0_3, .int .i64 a0_4, .int .i64 a0_5, .string a0_6, .string a0_7, .slice A0_8 l0_8.length c0_8], .agg #[.int .i64 a1_2, .int .i64 a1_3, .int .i64 a1_4, .int .i64 a1_5, .string a1_6, .string a1_7, .slice A1_8 l1_8.length c1_8]] ?_; (with_reducible refine (laws_eqExp.calls k a0_2 a0_3 a0_4 a0_5 a0_6 a0_7 _ _ l0_8 a1_2 a1_3 a1_4 a1_5 a1_6 a1_7 _ _ l1_8 true _ ?side1 ?side2 ?side3 ?side4 A5.out).mono ?_); (case side1 => exact ck_ (Kd.C_below HR0_8.out HB.out)); (case side2 => exact HC0_8.out); (case side3 => exact ck_ (Kd.C_below HR1_8.out HB.out)); (case side4 => exact HC1_8.out); rintro e w41 ⟨rfl, hb⟩; refine ⟨_, rfl, ?_⟩; replace BK301 := bkb_ BK301 hb; replace BK302 := bkb_ BK302 hb; replace HB := bs_ hb; (try clear hb); (try clear hb2); (try clear hk); (try clear hi); obtain ⟨hcz42_0, hcz42_1, hcz42_2, hcz42_3, hcz42_4, hcz42_5, hcz42_6, hcz42_7, hcz42_8, hcz42_9, hcz42_10, hcz42_11, hfz42_0, hfz42_1, hfz42_2, hfz42_3, hfz42_4, hfz42_5, hfz42_6, hfz42_7, hfz42_8, hfz42_9, hfz42_10, hfz42_11⟩ := b12_ BK301; obtain ⟨hcz43_0, hcz43_1, hcz43_2, hcz43_3, hcz43_4, hcz43_5, hcz43_6, hcz43_7, hcz43_8, hcz43_9, hcz43_10, hcz43_11, hfz43_0, hfz43_1, hfz43_2, hfz43_3, hfz43_4, hfz43_5, hfz43_6, hfz43_7, hfz43_8, hfz43_9, hfz43_10, hfz43_11⟩ := b12_ BK302) | ((with_reducible refine gate_callee (f := 51) rfl ?_); refine gsL_ (some 25) Tryd.func51 #[.slice A0_9 l0_9.length c0_9, .slice A1_9 l1_9.length c1_9] ?_; (with_reducible refine (laws_eqExpS.calls (laws_eqExp.f k) (laws_eqExp.calls k) k _ _ l0_9 _ _ l1_9 true _ ?side1 ?side2 ?side3 ?side4 A7.out).mono ?_); (case side1 => exact ck_ (Kd.C_below HR0_9.out HB.out)); (case side2 => exact HC0_9.out); (case side3 => exact ck_ (Kd.C_below HR1_9.out HB.out)); (case side4 => exact HC1_9.out); rintro e w44 ⟨rfl, hb⟩; refine ⟨_, rfl, ?_⟩; replace BK301 := bkb_ BK301 hb; replace BK302 := bkb_ BK302 hb; replace HB := bs_ hb; (try clear hb); (try clear hb2); (try clear hk); (try clear hi); obtain ⟨hcz45_0, hcz45_1, hcz45_2, hcz45_3, hcz45_4, hcz45_5, hcz45_6, hcz45_7, hcz45_8, hcz45_9, hcz45_10, hcz45_11, hfz45_0, hfz45_1, hfz45_2, hfz45_3, hfz45_4, hfz45_5, hfz45_6, hfz45_7, hfz45_8, hfz45_9, hfz45_10, hfz45_11⟩ := b12_ BK301; obtain ⟨hcz46_0, hcz46_1, hcz46_2, hcz46_3, hcz46_4, hcz46_5, hcz46_6, hcz46_7, hcz46_8, hcz46_9, hcz46_10, hcz46_11, hfz46_0, hfz46_1, hfz46_2, hfz46_3, hfz46_4, hfz46_5, hfz46_6, hfz46_7, hfz46_8, hfz46_9, hfz46_10, hfz46_11⟩ := b12_ BK302))
       go_ret
       exact ⟨er_, bb_⟩
     ·replace c8 := Bool.eq_false_iff.mpr c8
      subst c8
      have H1 : (some false) = some r := by rw [if_neg (show ¬ (false = true) by decide)] at H; exact H
      clear H
      have H := H1
      clear H1
      obtain rfl := Option.some.inj H
      go_enter Tryd.func41, Tryd.ntmps41
      go_wp2_with (first | ((with_reducible refine gate_dst (N := 2) rfl ?_); refine bx_ 2 #[.int .i64 a0_0, .string a0_1, .int .i64 a0_2, .int .i64 a0_3, .int .i64 a0_4, .int .i64 a0_5, .string a0_6, .string a0_7, .slice A0_8 l0_8.length c0_8, .slice A0_9 l0_9.length c0_9, .int .i64 a0_10, .slice A0_11 l0_11.length c0_11] 70 ?_; intro gb301 hg w47 hbox hb; have BK301 := Aside0.mk (hbox); have GW301 := gw_ hg; have GE301 := gw_ hg; replace HB := bs_ hb; clear hb hbox hg) | ((with_reducible refine gate_dst (N := 3) rfl ?_); refine bx_ 3 #[.int .i64 a1_0, .string a1_1, .int .i64 a1_2, .int .i64 a1_3, .int .i64 a1_4, .int .i64 a1_5, .string a1_6, .string a1_7, .slice A1_8 l1_8.length c1_8, .slice A1_9 l1_9.length c1_9, .int .i64 a1_10, .slice A1_11 l1_11.length c1_11] 70 ?_; intro gb302 hg w48 hbox hb; have BK302 := Aside0.mk (hbox); have GW302 := gw_ hg; have GE302 := gw_ hg; have NB301_302 := nl_ hg BK301; have NB302_301 := ng_ hg BK301; replace BK301 := bkb_ BK301 hb; replace HB := bs_ hb; clear hb hbox hg; have hnb49 := NB301_302.out; have hnc49 := NB302_301.out; obtain ⟨hcz50_0, hcz50_1, hcz50_2, hcz50_3, hcz50_4, hcz50_5, hcz50_6, hcz50_7, hcz50_8, hcz50_9, hcz50_10, hcz50_11, hfz50_0, hfz50_1, hfz50_2, hfz50_3, hfz50_4, hfz50_5, hfz50_6, hfz50_7, hfz50_8, hfz50_9, hfz50_10, hfz50_11⟩ := b12_ BK301; obtain ⟨hcz51_0, hcz51_1, hcz51_2, hcz51_3, hcz51_4, hcz51_5, hcz51_6, hcz51_7, hcz51_8, hcz51_9, hcz51_10, hcz51_11, hfz51_0, hfz51_1, hfz51_2, hfz51_3, hfz51_4, hfz51_5, hfz51_6, hfz51_7, hfz51_8, hfz51_9, hfz51_10, hfz51_11⟩ := b12_ BK302) | ((with_reducible refine gate_callee (f := 11) rfl ?_); refine gsL_ (some 19) Tryd.func11 #[.agg #[.int .i64 a0_2, .int .i64 a0_3, .int .i64 a0_4, .int .i64 a0_5, .string a0_6, .string a0_7, .slice A0_8 l0_8.length c0_8], .agg #[.int .i64 a1_2, .int .i64 a1_3, .int .i64 a1_4, .int .i64 a1_5, .string a1_6, .string a1_7, .slice A1_8 l1_8.length c1_8]] ?_; (with_reducible refine (laws_eqExp.calls k a0_2 a0_3 a0_4 a0_5 a0_6 a0_7 _ _ l0_8 a1_2 a1_3 a1_4 a1_5 a1_6 a1_7 _ _ l1_8 true _ ?side1 ?side2 ?side3 ?side4 A5.out).mono ?_); (case side1 => exact ck_ (Kd.C_below HR0_8.out HB.out)); (case side2 => exact HC0_8.out); (case side3 => exact ck_ (Kd.C_below HR1_8.out HB.out)); (case side4 => exact HC1_8.out); rintro e w52 ⟨rfl, hb⟩; refine ⟨_, rfl, ?_⟩; replace BK301 := bkb_ BK301 hb; replace BK302 := bkb_ BK302 hb; replace HB := bs_ hb; (try clear hb); (try clear hb2); (try clear hk); (try clear hi); obtain ⟨hcz53_0, hcz53_1, hcz53_2, hcz53_3, hcz53_4, hcz53_5, hcz53_6, hcz53_7, hcz53_8, hcz53_9, hcz53_10, hcz53_11, hfz53_0, hfz53_1, hfz53_2, hfz53_3, hfz53_4, hfz53_5, hfz53_6, hfz53_7, hfz53_8, hfz53_9, hfz53_10, hfz53_11⟩ := b12_ BK301; obtain ⟨hcz54_0, hcz54_1, hcz54_2, hcz54_3, hcz54_4, hcz54_5, hcz54_6, hcz54_7, hcz54_8, hcz54_9, hcz54_10, hcz54_11, hfz54_0, hfz54_1, hfz54_2, hfz54_3, hfz54_4, hfz54_5, hfz54_6, hfz54_7, hfz54_8, hfz54_9, hfz54_10, hfz54_11⟩ := b12_ BK302) | ((with_reducible refine gate_callee (f := 51) rfl ?_); refine gsL_ (some 25) Tryd.func51 #[.slice A0_9 l0_9.length c0_9, .slice A1_9 l1_9.length c1_9] ?_; (with_reducible refine (laws_eqExpS.calls (laws_eqExp.f k) (laws_eqExp.calls k) k _ _ l0_9 _ _ l1_9 false _ ?side1 ?side2 ?side3 ?side4 A7.out).mono ?_); (case side1 => exact ck_ (Kd.C_below HR0_9.out HB.out)); (case side2 => exact HC0_9.out); (case side3 => exact ck_ (Kd.C_below HR1_9.out HB.out)); (case side4 => exact HC1_9.out); rintro e w55 ⟨rfl, hb⟩; refine ⟨_, rfl, ?_⟩; replace BK301 := bkb_ BK301 hb; replace BK302 := bkb_ BK302 hb; replace HB := bs_ hb; (try clear hb); (try clear hb2); (try clear hk); (try clear hi)))
      go_ret
      exact ⟨er_, bb_⟩
    ·replace c6 := Bool.eq_false_iff.mpr c6
     subst c6
     have H1 : (some false) = some r := by rw [if_neg (show ¬ (false = true) by decide)] at H; exact H
     clear H
     have H := H1
     clear H1
     obtain rfl := Option.some.inj H
     go_enter Tryd.func41, Tryd.ntmps41
     go_wp2_with (first | ((with_reducible refine gate_dst (N := 2) rfl ?_); refine bx_ 2 #[.int .i64 a0_0, .string a0_1, .int .i64 a0_2, .int .i64 a0_3, .int .i64 a0_4, .int .i64 a0_5, .string a0_6, .string a0_7, .slice A0_8 l0_8.length c0_8, .slice A0_9 l0_9.length c0_9, .int .i64 a0_10, .slice A0_11 l0_11.length c0_11] 70 ?_; intro gb301 hg w56 hbox hb; have BK301 := Aside0.mk (hbox); have GW301 := gw_ hg; have GE301 := gw_ hg; replace HB := bs_ hb; clear hb hbox hg) | ((with_reducible refine gate_dst (N := 3) rfl ?_); refine bx_ 3 #[.int .i64 a1_0, .string a1_1, .int .i64 a1_2, .int .i64 a1_3, .int .i64 a1_4, .int .i64 a1_5, .string a1_6, .string a1_7, .slice A1_8 l1_8.length c1_8, .slice A1_9 l1_9.length c1_9, .int .i64 a1_10, .slice A1_11 l1_11.length c1_11] 70 ?_; intro gb302 hg w57 hbox hb; have BK302 := Aside0.mk (hbox); have GW302 := gw_ hg; have GE302 := gw_ hg; have NB301_302 := nl_ hg BK301; have NB302_301 := ng_ hg BK301; replace BK301 := bkb_ BK301 hb; replace HB := bs_ hb; clear hb hbox hg; have hnb58 := NB301_302.out; have hnc58 := NB302_301.out; obtain ⟨hcz59_0, hcz59_1, hcz59_2, hcz59_3, hcz59_4, hcz59_5, hcz59_6, hcz59_7, hcz59_8, hcz59_9, hcz59_10, hcz59_11, hfz59_0, hfz59_1, hfz59_2, hfz59_3, hfz59_4, hfz59_5, hfz59_6, hfz59_7, hfz59_8, hfz59_9, hfz59_10, hfz59_11⟩ := b12_ BK301; obtain ⟨hcz60_0, hcz60_1, hcz60_2, hcz60_3, hcz60_4, hcz60_5, hcz60_6, hcz60_7, hcz60_8, hcz60_9, hcz60_10, hcz60_11, hfz60_0, hfz60_1, hfz60_2, hfz60_3, hfz60_4, hfz60_5, hfz60_6, hfz60_7, hfz60_8, hfz60_9, hfz60_10, hfz60_11⟩ := b12_ BK302) | ((with_reducible refine gate_callee (f := 11) rfl ?_); refine gsL_ (some 19) Tryd.func11 #[.agg #[.int .i64 a0_2, .int .i64 a0_3, .int .i64 a0_4, .int .i64 a0_5, .string a0_6, .string a0_7, .slice A0_8 l0_8.length c0_8], .agg #[.int .i64 a1_2, .int .i64 a1_3, .int .i64 a1_4, .int .i64 a1_5, .string a1_6, .string a1_7, .slice A1_8 l1_8.length c1_8]] ?_; (with_reducible refine (laws_eqExp.calls k a0_2 a0_3 a0_4 a0_5 a0_6 a0_7 _ _ l0_8 a1_2 a1_3 a1_4 a1_5 a1_6 a1_7 _ _ l1_8 false _ ?side1 ?side2 ?side3 ?side4 A5.out).mono ?_); (case side1 => exact ck_ (Kd.C_below HR0_8.out HB.out)); (case side2 => exact HC0_8.out); (case side3 => exact ck_ (Kd.C_below HR1_8.out HB.out)); (case side4 => exact HC1_8.out); rintro e w61 ⟨rfl, hb⟩; refine ⟨_, rfl, ?_⟩; replace BK301 := bkb_ BK301 hb; replace BK302 := bkb_ BK302 hb; replace HB := bs_ hb; (try clear hb); (try clear hb2); (try clear hk); (try clear hi)))
     go_ret
     exact ⟨er_, bb_⟩
   ·rw [if_neg c4] at H
    have c4b0 : (a0_1.toList == a1_1.toList) = false := beq_eq_false_iff_ne.mpr c4
    have c4b1 : (a0_1.toList != a1_1.toList) = true := bne_iff_ne.mpr c4
    obtain rfl := Option.some.inj H
    go_enter Tryd.func41, Tryd.ntmps41
    go_wp2_with (first | ((with_reducible refine gate_dst (N := 2) rfl ?_); refine bx_ 2 #[.int .i64 a0_0, .string a0_1, .int .i64 a0_2, .int .i64 a0_3, .int .i64 a0_4, .int .i64 a0_5, .string a0_6, .string a0_7, .slice A0_8 l0_8.length c0_8, .slice A0_9 l0_9.length c0_9, .int .i64 a0_10, .slice A0_11 l0_11.length c0_11] 70 ?_; intro gb301 hg w62 hbox hb; have BK301 := Aside0.mk (hbox); have GW301 := gw_ hg; have GE301 := gw_ hg; replace HB := bs_ hb; clear hb hbox hg) | ((with_reducible refine gate_dst (N := 3) rfl ?_); refine bx_ 3 #[.int .i64 a1_0, .string a1_1, .int .i64 a1_2, .int .i64 a1_3, .int .i64 a1_4, .int .i64 a1_5, .string a1_6, .string a1_7, .slice A1_8 l1_8.length c1_8, .slice A1_9 l1_9.length c1_9, .int .i64 a1_10, .slice A1_11 l1_11.length c1_11] 70 ?_; intro gb302 hg w63 hbox hb; have BK302 := Aside0.mk (hbox); have GW302 := gw_ hg; have GE302 := gw_ hg; have NB301_302 := nl_ hg BK301; have NB302_301 := ng_ hg BK301; replace BK301 := bkb_ BK301 hb; replace HB := bs_ hb; clear hb hbox hg; have hnb64 := NB301_302.out; have hnc64 := NB302_301.out; obtain ⟨hcz65_0, hcz65_1, hcz65_2, hcz65_3, hcz65_4, hcz65_5, hcz65_6, hcz65_7, hcz65_8, hcz65_9, hcz65_10, hcz65_11, hfz65_0, hfz65_1, hfz65_2, hfz65_3, hfz65_4, hfz65_5, hfz65_6, hfz65_7, hfz65_8, hfz65_9, hfz65_10, hfz65_11⟩ := b12_ BK301; obtain ⟨hcz66_0, hcz66_1, hcz66_2, hcz66_3, hcz66_4, hcz66_5, hcz66_6, hcz66_7, hcz66_8, hcz66_9, hcz66_10, hcz66_11, hfz66_0, hfz66_1, hfz66_2, hfz66_3, hfz66_4, hfz66_5, hfz66_6, hfz66_7, hfz66_8, hfz66_9, hfz66_10, hfz66_11⟩ := b12_ BK302))
    go_ret
    exact ⟨er_, bb_⟩
  ·rw [if_neg c3] at H
   have c3b0 : (a0_0 == a1_0) = false := beq_eq_false_iff_ne.mpr c3
   have c3b1 : (a0_0 != a1_0) = true := bne_iff_ne.mpr c3
   obtain rfl := Option.some.inj H
   go_enter Tryd.func41, Tryd.ntmps41
   go_wp2_with (first | ((with_reducible refine gate_dst (N := 2) rfl ?_); refine bx_ 2 #[.int .i64 a0_0, .string a0_1, .int .i64 a0_2, .int .i64 a0_3, .int .i64 a0_4, .int .i64 a0_5, .string a0_6, .string a0_7, .slice A0_8 l0_8.length c0_8, .slice A0_9 l0_9.length c0_9, .int .i64 a0_10, .slice A0_11 l0_11.length c0_11] 70 ?_; intro gb301 hg w67 hbox hb; have BK301 := Aside0.mk (hbox); have GW301 := gw_ hg; have GE301 := gw_ hg; replace HB := bs_ hb; clear hb hbox hg) | ((with_reducible refine gate_dst (N := 3) rfl ?_); refine bx_ 3 #[.int .i64 a1_0, .string a1_1, .int .i64 a1_2, .int .i64 a1_3, .int .i64 a1_4, .int .i64 a1_5, .string a1_6, .string a1_7, .slice A1_8 l1_8.length c1_8, .slice A1_9 l1_9.length c1_9, .int .i64 a1_10, .slice A1_11 l1_11.length c1_11] 70 ?_; intro gb302 hg w68 hbox hb; have BK302 := Aside0.mk (hbox); have GW302 := gw_ hg; have GE302 := gw_ hg; have NB301_302 := nl_ hg BK301; have NB302_301 := ng_ hg BK301; replace BK301 := bkb_ BK301 hb; replace HB := bs_ hb; clear hb hbox hg; have hnb69 := NB301_302.out; have hnc69 := NB302_301.out; obtain ⟨hcz70_0, hcz70_1, hcz70_2, hcz70_3, hcz70_4, hcz70_5, hcz70_6, hcz70_7, hcz70_8, hcz70_9, hcz70_10, hcz70_11, hfz70_0, hfz70_1, hfz70_2, hfz70_3, hfz70_4, hfz70_5, hfz70_6, hfz70_7, hfz70_8, hfz70_9, hfz70_10, hfz70_11⟩ := b12_ BK301; obtain ⟨hcz71_0, hcz71_1, hcz71_2, hcz71_3, hcz71_4, hcz71_5, hcz71_6, hcz71_7, hcz71_8, hcz71_9, hcz71_10, hcz71_11, hfz71_0, hfz71_1, hfz71_2, hfz71_3, hfz71_4, hfz71_5, hfz71_6, hfz71_7, hfz71_8, hfz71_9, hfz71_10, hfz71_11⟩ := b12_ BK302))
   go_ret
   exact ⟨er_, bb_⟩

end Go.Proofs.YthgdmdabdlgliaaDoor.PFnExactPlanText
