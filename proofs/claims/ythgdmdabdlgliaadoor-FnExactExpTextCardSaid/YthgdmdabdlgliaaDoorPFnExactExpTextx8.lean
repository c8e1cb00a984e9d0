-- WRITTEN BY xprint.py, a program of this session over the kit's printer: by nobody's hand
-- PRESSED
import Derived.Test.YthgdmdabdlgliaaDoorPress
import Derived.Test.YthgdmdabdlgliaaDoorPFnExactExpTextx0
import Derived.Test.YthgdmdabdlgliaaDoorPFnExactExpTextx2
import Derived.Test.YthgdmdabdlgliaaDoorPFnExactExpTextx5
import Derived.Test.YthgdmdabdlgliaaDoorPFnExactExpTextx6
import Derived.Test.YthgdmdabdlgliaaDoorPFnExactExpTextx7
namespace Go.Proofs.YthgdmdabdlgliaaDoor.PFnExactExpText
open Go.RowKit Go.Proofs.YthgdmdabdlgliaaDoorW.PrintWords Go.Proofs.YthgdmdabdlgliaaDoorW.PrintLast Go.Proofs.YthgdmdabdlgliaaDoorW.PrintMore
set_option linter.unusedVariables false
set_option linter.unusedSimpArgs false

/-! ### laws_eqExpS: function 51 -/
def laws_eqExpS.l0 (E_ : Int → Int → Int → Int → ByteArray → ByteArray → (List (S32)) → Int → Int → Int → Int → ByteArray → ByteArray → (List (S32)) → Option (Bool)) : Nat → List (S32) → List (S32) → Int → Option (Bool)
 | 0, _, _, _ => none
 | k + 1, x0, x1, x5 => if x5 < (x0.length : Int) then (if 0 ≤ x5 then (if x5 < (x1.length : Int) then ((E_ ((rd_T32 x0 x5).f0) ((rd_T32 x0 x5).f1) ((rd_T32 x0 x5).f2.f0) ((rd_T32 x0 x5).f2.f1) ((rd_T32 x0 x5).f2.f2) ((rd_T32 x0 x5).f3) ((rd_T32 x0 x5).f4) ((rd_T32 x1 x5).f0) ((rd_T32 x1 x5).f1) ((rd_T32 x1 x5).f2.f0) ((rd_T32 x1 x5).f2.f1) ((rd_T32 x1 x5).f2.f2) ((rd_T32 x1 x5).f3) ((rd_T32 x1 x5).f4)).bind fun t202 => (if t202 = true then (laws_eqExpS.l0 E_ k x0 x1 (wrap64 (x5 + 1))) else (some false))) else (none)) else (none)) else (some true)
def laws_eqExpS.f (E_ : Int → Int → Int → Int → ByteArray → ByteArray → (List (S32)) → Int → Int → Int → Int → ByteArray → ByteArray → (List (S32)) → Option (Bool)) (k : Nat) (l0 : List (S32)) (l1 : List (S32)) : Option (Bool) := if (l0.length : Int) = (l1.length : Int) then (laws_eqExpS.l0 E_ k l0 l1 0) else (some false)
def laws_eqExpS.T6 : Bool × List (List Nat × List Nat) := (true, [([], []), ([], []), ([0, 1], [0, 1]), ([2], [2]), ([], []), ([], []), ([4, 5], [4, 5]), ([6], [6]), ([3, 7], [3, 7]), ([8], [8])])
def laws_eqExpS.B6 : List Nat := [0, 0, 3, 7, 0, 0, 48, 112, 255, 511]
theorem laws_eqExpS.tab6 : rtab .any (opsOf Tryd.f51 6) = laws_eqExpS.T6 := by kernel_rfl
theorem laws_eqExpS.bits6 : waitsOk laws_eqExpS.T6.2 laws_eqExpS.B6 = true := by kernel_rfl
set_option maxHeartbeats 8000000 in
set_option maxRecDepth 100000 in
theorem laws_eqExpS.calls (E_ : Int → Int → Int → Int → ByteArray → ByteArray → (List (S32)) → Int → Int → Int → Int → ByteArray → ByteArray → (List (S32)) → Option (Bool)) (hE_ : ∀ (a0_0 : Int) (a0_1 : Int) (a0_2 : Int) (a0_3 : Int) (a0_4 : ByteArray) (a0_5 : ByteArray) (A0_6 : Option Addr) (c0_6 : Nat) (l0_6 : List (S32)) (a1_0 : Int) (a1_1 : Int) (a1_2 : Int) (a1_3 : Int) (a1_4 : ByteArray) (a1_5 : ByteArray) (A1_6 : Option Addr) (c1_6 : Nat) (l1_6 : List (S32)) (r : Bool) (w : World) (hr0_6 : Kd.C k32 w A0_6 l0_6.length l0_6) (hc0_6 : l0_6.length ≤ c0_6) (hr1_6 : Kd.C k32 w A1_6 l1_6.length l1_6) (hc1_6 : l1_6.length ≤ c1_6) (h : E_ a0_0 a0_1 a0_2 a0_3 a0_4 a0_5 l0_6 a1_0 a1_1 a1_2 a1_3 a1_4 a1_5 l1_6 = some r), Calls Tryd.prog 11 #[.agg #[.int .i64 a0_0, .int .i64 a0_1, .int .i64 a0_2, .int .i64 a0_3, .string a0_4, .string a0_5, .slice A0_6 l0_6.length c0_6], .agg #[.int .i64 a1_0, .int .i64 a1_1, .int .i64 a1_2, .int .i64 a1_3, .string a1_4, .string a1_5, .slice A1_6 l1_6.length c1_6]] w fun e w' => e = .returned (.bool r) ∧ Below w.heap.size w w') (k : Nat) (A0 : Option Addr) (c0 : Nat) (l0 : List (S32)) (A1 : Option Addr) (c1 : Nat) (l1 : List (S32)) (r : Bool) (w : World) (hr0 : Kd.C k32 w A0 l0.length l0) (hc0 : l0.length ≤ c0) (hr1 : Kd.C k32 w A1 l1.length l1) (hc1 : l1.length ≤ c1) (h : laws_eqExpS.f E_ k l0 l1 = some r) :
  Calls Tryd.prog 51 #[.slice A0 l0.length c0, .slice A1 l1.length c1] w fun e w' => e = .returned (.bool r) ∧ Below w.heap.size w w' := by
 have hu32 := Tryd.underlying32
 have HR0 := Aside0.mk hr0
 have HC0 := Aside0.mk hc0
 clear hr0 hc0
 have HR1 := Aside0.mk hr1
 have HC1 := Aside0.mk hc1
 clear hr1 hc1
 have HB := Aside0.mk (Below.refl w.heap.size w)
 have H : (if (l0.length : Int) = (l1.length : Int) then (laws_eqExpS.l0 E_ k l0 l1 0) else (some false)) = some r := h
 clear h
 by_cases c3 : (l0.length : Int) = (l1.length : Int)
 ·rw [if_pos c3] at H
  have c3b0 : ((l0.length : Int) == (l1.length : Int)) = true := beq_iff_eq.mpr c3
  have c3b1 : ((l0.length : Int) != (l1.length : Int)) = false := bne_eq_false_iff_eq.mpr c3
  have c3b2 : (l0.length == l1.length) = true := by first | simpa using c3 | (simp at c3 ⊢; omega)
  clear c3
  have H' := Aside0.mk H
  clear H
  go_enter Tryd.func51, Tryd.ntmps51
  go_wp2
  go_loopg [5] k (fun kq v5 w' => ∃ (x5_1 : Int), v5 = .int .i64 x5_1 ∧ Aside0 (laws_eqExpS.l0 E_ kq l0 l1 x5_1 = some r) ∧ Aside0 (kq ≤ k) ∧ Aside0 (Below w.heap.size w w'))
  case atStart => exact ⟨(0), rs_, H', ⟨Nat.le_refl _⟩, ⟨bb_⟩⟩
  case round =>
   clear H'
   try clear c1
   try clear p2
   try clear c3
   try clear c3b0
   try clear c3b1
   try clear c3b2
   obtain ⟨x5_1, rfl, HA, HK1, HB⟩ := hrel
   cases gk with
   | zero => exact absurd HA.out (by simp [laws_eqExpS.l0])
   | succ k1 =>
    have H := HA.out
    clear HA
    simp only [laws_eqExpS.l0] at H
    by_cases c4 : x5_1 < (l0.length : Int)
    ·rw [if_pos c4] at H
     have c4b0 : decide (x5_1 < (l0.length : Int)) = true := decide_eq_true c4
     clear c4
     by_cases c5 : 0 ≤ x5_1
     ·rw [if_pos c5] at H
      have c5b0 : decide (0 ≤ x5_1) = true := decide_eq_true c5
      clear c5
      by_cases c6 : x5_1 < (l1.length : Int)
      ·rw [if_pos c6] at H
       have c6b0 : decide (x5_1 < (l1.length : Int)) = true := decide_eq_true c6
       clear c6
       replace H := Option.bind_eq_some_iff.mp H
       obtain ⟨t202, A70, H⟩ := H
       replace H : (if t202 = true then (laws_eqExpS.l0 E_ k1 l0 l1 (wrap64 (x5_1 + 1))) else (some false)) = some r := H
       have A7 := Aside0.mk A70
       clear A70
       by_cases c8 : t202 = true
       ·subst c8
        have H1 : (laws_eqExpS.l0 E_ k1 l0 l1 (wrap64 (x5_1 + 1))) = some r := by rw [if_pos rfl] at H; exact H
        clear H
        have H := H1
        clear H1
        have H' := Aside0.mk H
        clear H
        try go_wp2
        replace HB := Aside0.mk (below_drew1 HB.out)
        have p200 : 0 ≤ (x5_1 : Int) := of_decide_eq_true (by first | (with_reducible assumption) | assumption)
        have q200 : x5_1 < (l0.length : Int) := of_decide_eq_true (by first | (with_reducible assumption) | assumption)
        obtain ⟨ad200, A200_6, c200_6, e200, hx200_0, hx200_1, hx200_2, hx200_3, hx200_4, hx200_5, hx200_6, hl200_6, hi200_6⟩ := at_T32 HR0.out x5_1 p200 q200
        have hw200_6 := hx200_6
        have hw200_5 := hx200_5
        have hw200_4 := hx200_4
        have hw200_3 := hx200_3
        have hw200_2 := hx200_2
        have hw200_1 := hx200_1
        have hw200_0 := hx200_0
        cases e200
        replace hx200_0 := hb_ HB hx200_0
        replace hx200_1 := hb_ HB hx200_1
        replace hx200_2 := hb_ HB hx200_2
        replace hx200_3 := hb_ HB hx200_3
        replace hx200_4 := hb_ HB hx200_4
        replace hx200_5 := hb_ HB hx200_5
        replace hx200_6 := hb_ HB hx200_6
        have HR200_6 := Aside0.mk hi200_6
        have HC200_6 := Aside0.mk hl200_6
        clear hi200_6 hl200_6
        replace p200 := eq_true p200
        replace q200 := eq_true q200
        have p201 : 0 ≤ (x5_1 : Int) := of_decide_eq_true (by first | (with_reducible assumption) | assumption)
        have q201 : x5_1 < (l1.length : Int) := of_decide_eq_true (by first | (with_reducible assumption) | assumption)
        obtain ⟨ad201, A201_6, c201_6, e201, hx201_0, hx201_1, hx201_2, hx201_3, hx201_4, hx201_5, hx201_6, hl201_6, hi201_6⟩ := at_T32 HR1.out x5_1 p201 q201
        have hw201_6 := hx201_6
        have hw201_5 := hx201_5
        have hw201_4 := hx201_4
        have hw201_3 := hx201_3
        have hw201_2 := hx201_2
        have hw201_1 := hx201_1
        have hw201_0 := hx201_0
        cases e201
        replace hx201_0 := hb_ HB hx201_0
        replace hx201_1 := hb_ HB hx201_1
        replace hx201_2 := hb_ HB hx201_2
        replace hx201_3 := hb_ HB hx201_3
        replace hx201_4 := hb_ HB hx201_4
        replace hx201_5 := hb_ HB hx201_5
        replace hx201_6 := hb_ HB hx201_6
        have HR201_6 := Aside0.mk hi201_6
        have HC201_6 := Aside0.mk hl201_6
        clear hi201_6 hl201_6
        replace p201 := eq_true p201
        replace q201 := eq_true q201
        refine start_ (n := 10) (S := fun w' => w'.cell? (ad200.add ((x5_1).toNat * 7)) = some (.int .i64 ((rd_T32 l0 x5_1).f0)) ∧ w'.cell? ⟨(ad200.add ((x5_1).toNat * 7)).block, (ad200.add ((x5_1).toNat * 7)).off + 1, none⟩ = some (.int .i64 ((rd_T32 l0 x5_1).f1)) ∧ w'.cell? ⟨(ad200.add ((x5_1).toNat * 7)).block, (ad200.add ((x5_1).toNat * 7)).off + 2, none⟩ = some (.int .i64 ((rd_T32 l0 x5_1).f2.f0)) ∧ w'.cell? ⟨(ad200.add ((x5_1).toNat * 7)).block, (ad200.add ((x5_1).toNat * 7)).off + 3, none⟩ = some (.int .i64 ((rd_T32 l0 x5_1).f2.f1)) ∧ w'.cell? ⟨(ad200.add ((x5_1).toNat * 7)).block, (ad200.add ((x5_1).toNat * 7)).off + 4, none⟩ = some (.string ((rd_T32 l0 x5_1).f2.f2)) ∧ w'.cell? ⟨(ad200.add ((x5_1).toNat * 7)).block, (ad200.add ((x5_1).toNat * 7)).off + 5, none⟩ = some (.string ((rd_T32 l0 x5_1).f3)) ∧ w'.cell? ⟨(ad200.add ((x5_1).toNat * 7)).block, (ad200.add ((x5_1).toNat * 7)).off + 6, none⟩ = some (.slice A200_6 ((rd_T32 l0 x5_1).f4).length c200_6) ∧ w'.cell? (ad201.add ((x5_1).toNat * 7)) = some (.int .i64 ((rd_T32 l1 x5_1).f0)) ∧ w'.cell? ⟨(ad201.add ((x5_1).toNat * 7)).block, (ad201.add ((x5_1).toNat * 7)).off + 1, none⟩ = some (.int .i64 ((rd_T32 l1 x5_1).f1)) ∧ w'.cell? ⟨(ad201.add ((x5_1).toNat * 7)).block, (ad201.add ((x5_1).toNat * 7)).off + 2, none⟩ = some (.int .i64 ((rd_T32 l1 x5_1).f2.f0)) ∧ w'.cell? ⟨(ad201.add ((x5_1).toNat * 7)).block, (ad201.add ((x5_1).toNat * 7)).off + 3, none⟩ = some (.int .i64 ((rd_T32 l1 x5_1).f2.f1)) ∧ w'.cell? ⟨(ad201.add ((x5_1).toNat * 7)).block, (ad201.add ((x5_1).toNat * 7)).off + 4, none⟩ = some (.string ((rd_T32 l1 x5_1).f2.f2)) ∧ w'.cell? ⟨(ad201.add ((x5_1).toNat * 7)).block, (ad201.add ((x5_1).toNat * 7)).off + 5, none⟩ = some (.string ((rd_T32 l1 x5_1).f3)) ∧ w'.cell? ⟨(ad201.add ((x5_1).toNat * 7)).block, (ad201.add ((x5_1).toNat * 7)).off + 6, none⟩ = some (.slice A201_6 ((rd_T32 l1 x5_1).f4).length c201_6)) (ds := []) (tf 0 10) (by kernel_rfl) rfl rfl ⟨(hb_ HB hw200_0), (hb_ HB hw200_1), (hb_ HB hw200_2), (hb_ HB hw200_3), (hb_ HB hw200_4), (hb_ HB hw200_5), (hb_ HB hw200_6), (hb_ HB hw201_0), (hb_ HB hw201_1), (hb_ HB hw201_2), (hb_ HB hw201_3), (hb_ HB hw201_4), (hb_ HB hw201_5), (hb_ HB hw201_6)⟩ (fun hHeld => ?_); refine with_tabW laws_eqExpS.tab6 laws_eqExpS.bits6 (fun HT_ HW_ => ?_)
        generalize wr.drew = w9 at HB HR200_6 HR201_6 hx200_0 hx200_1 hx200_2 hx200_3 hx200_4 hx200_5 hx200_6 hx201_0 hx201_1 hx201_2 hx201_3 hx201_4 hx201_5 hx201_6 hHeld ⊢
        iterate 3 (refine pl_ ?_)
        refine plx_ 4 #[true, true, true, false, true, false, false, false, false, false] ?_
        refine plx_ 5 #[true, true, true, false, true, true, false, false, false, false] ?_
        refine plx_ 6 #[true, true, true, false, true, true, true, false, false, false] ?_
        refine tlx_ 3 (tf 7 3) ?_
        refine tl_ ?_
        refine one_ (i := 8) (N := some 25) (tf 9 1) rfl rfl (one_of HT_.out (by kernel_rfl)) (by decide) (fun K hK => ?_)
        refine gs_ Tryd.func11 #[.agg #[.int .i64 ((rd_T32 l0 x5_1).f0), .int .i64 ((rd_T32 l0 x5_1).f1), .int .i64 ((rd_T32 l0 x5_1).f2.f0), .int .i64 ((rd_T32 l0 x5_1).f2.f1), .string ((rd_T32 l0 x5_1).f2.f2), .string ((rd_T32 l0 x5_1).f3), .slice A200_6 ((rd_T32 l0 x5_1).f4).length c200_6], .agg #[.int .i64 ((rd_T32 l1 x5_1).f0), .int .i64 ((rd_T32 l1 x5_1).f1), .int .i64 ((rd_T32 l1 x5_1).f2.f0), .int .i64 ((rd_T32 l1 x5_1).f2.f1), .string ((rd_T32 l1 x5_1).f2.f2), .string ((rd_T32 l1 x5_1).f3), .slice A201_6 ((rd_T32 l1 x5_1).f4).length c201_6]] ?_
        with_reducible refine (hE_ ((rd_T32 l0 x5_1).f0) ((rd_T32 l0 x5_1).f1) ((rd_T32 l0 x5_1).f2.f0) ((rd_T32 l0 x5_1).f2.f1) ((rd_T32 l0 x5_1).f2.f2) ((rd_T32 l0 x5_1).f3) _ _ ((rd_T32 l0 x5_1).f4) ((rd_T32 l1 x5_1).f0) ((rd_T32 l1 x5_1).f1) ((rd_T32 l1 x5_1).f2.f0) ((rd_T32 l1 x5_1).f2.f1) ((rd_T32 l1 x5_1).f2.f2) ((rd_T32 l1 x5_1).f3) _ _ ((rd_T32 l1 x5_1).f4) true _ ?side1 ?side2 ?side3 ?side4 A7.out).mono ?_
        (case side1 => exact ck_ (Kd.C_below HR200_6.out HB.out))
        (case side2 => exact HC200_6.out)
        (case side3 => exact ck_ (Kd.C_below HR201_6.out HB.out))
        (case side4 => exact HC201_6.out)
        rintro e w10 ⟨rfl, hb⟩
        refine ⟨_, rfl, ?_⟩
        replace HB := bs_ hb
        (try clear hb)
        (try clear hb2)
        (try clear hk)
        (try clear hi)
        refine hK.out _ _ ⟨(hb_ HB hw200_0), (hb_ HB hw200_1), (hb_ HB hw200_2), (hb_ HB hw200_3), (hb_ HB hw200_4), (hb_ HB hw200_5), (hb_ HB hw200_6), (hb_ HB hw201_0), (hb_ HB hw201_1), (hb_ HB hw201_2), (hb_ HB hw201_3), (hb_ HB hw201_4), (hb_ HB hw201_5), (hb_ HB hw201_6)⟩ (fun hHeld => ?_)
        clear hK K
        refine nm_ ?_
        refine plx_ 9 (tf 10 0) ?_
        refine done_ (done_of HT_.out (by kernel_rfl)) ?_
        try go_wp2
        go_roundg k1
        case measure => have := HK1.out; omega
        case rel => exact ⟨(wrap64 (x5_1 + 1)), rs_, H', ⟨by have := HK1.out; omega⟩, ⟨bb_⟩⟩
       ·replace c8 := Bool.eq_false_iff.mpr c8
        subst c8
        have H1 : (some false) = some r := by rw [if_neg (show ¬ (false = true) by decide)] at H; exact H
        clear H
        have H := H1
        clear H1
        obtain rfl := Option.some.inj H
        try go_wp2
        replace HB := Aside0.mk (below_drew1 HB.out)
        have p200 : 0 ≤ (x5_1 : Int) := of_decide_eq_true (by first | (with_reducible assumption) | assumption)
        have q200 : x5_1 < (l0.length : Int) := of_decide_eq_true (by first | (with_reducible assumption) | assumption)
        obtain ⟨ad200, A200_6, c200_6, e200, hx200_0, hx200_1, hx200_2, hx200_3, hx200_4, hx200_5, hx200_6, hl200_6, hi200_6⟩ := at_T32 HR0.out x5_1 p200 q200
        have hw200_6 := hx200_6
        have hw200_5 := hx200_5
        have hw200_4 := hx200_4
        have hw200_3 := hx200_3
        have hw200_2 := hx200_2
        have hw200_1 := hx200_1
        have hw200_0 := hx200_0
        cases e200
        replace hx200_0 := hb_ HB hx200_0
        replace hx200_1 := hb_ HB hx200_1
        replace hx200_2 := hb_ HB hx200_2
        replace hx200_3 := hb_ HB hx200_3
        replace hx200_4 := hb_ HB hx200_4
        replace hx200_5 := hb_ HB hx200_5
        replace hx200_6 := hb_ HB hx200_6
        have HR200_6 := Aside0.mk hi200_6
        have HC200_6 := Aside0.mk hl200_6
        clear hi200_6 hl200_6
        replace p200 := eq_true p200
        replace q200 := eq_true q200
        have p201 : 0 ≤ (x5_1 : Int) := of_decide_eq_true (by first | (with_reducible assumption) | assumption)
        have q201 : x5_1 < (l1.length : Int) := of_decide_eq_true (by first | (with_reducible assumption) | assumption)
        obtain ⟨ad201, A201_6, c201_6, e201, hx201_0, hx201_1, hx201_2, hx201_3, hx201_4, hx201_5, hx201_6, hl201_6, hi201_6⟩ := at_T32 HR1.out x5_1 p201 q201
        have hw201_6 := hx201_6
        have hw201_5 := hx201_5
        have hw201_4 := hx201_4
        have hw201_3 := hx201_3
        have hw201_2 := hx201_2
        have hw201_1 := hx201_1
        have hw201_0 := hx201_0
        cases e201
        replace hx201_0 := hb_ HB hx201_0
        replace hx201_1 := hb_ HB hx201_1
        replace hx201_2 := hb_ HB hx201_2
        replace hx201_3 := hb_ HB hx201_3
        replace hx201_4 := hb_ HB hx201_4
        replace hx201_5 := hb_ HB hx201_5
        replace hx201_6 := hb_ HB hx201_6
        have HR201_6 := Aside0.mk hi201_6
        have HC201_6 := Aside0.mk hl201_6
        clear hi201_6 hl201_6
        replace p201 := eq_true p201
        replace q201 := eq_true q201
        refine start_ (n := 10) (S := fun w' => w'.cell? (ad200.add ((x5_1).toNat * 7)) = some (.int .i64 ((rd_T32 l0 x5_1).f0)) ∧ w'.cell? ⟨(ad200.add ((x5_1).toNat * 7)).block, (ad200.add ((x5_1).toNat * 7)).off + 1, none⟩ = some (.int .i64 ((rd_T32 l0 x5_1).f1)) ∧ w'.cell? ⟨(ad200.add ((x5_1).toNat * 7)).block, (ad200.add ((x5_1).toNat * 7)).off + 2, none⟩ = some (.int .i64 ((rd_T32 l0 x5_1).f2.f0)) ∧ w'.cell? ⟨(ad200.add ((x5_1).toNat * 7)).block, (ad200.add ((x5_1).toNat * 7)).off + 3, none⟩ = some (.int .i64 ((rd_T32 l0 x5_1).f2.f1)) ∧ w'.cell? ⟨(ad200.add ((x5_1).toNat * 7)).block, (ad200.add ((x5_1).toNat * 7)).off + 4, none⟩ = some (.string ((rd_T32 l0 x5_1).f2.f2)) ∧ w'.cell? ⟨(ad200.add ((x5_1).toNat * 7)).block, (ad200.add ((x5_1).toNat * 7)).off + 5, none⟩ = some (.string ((rd_T32 l0 x5_1).f3)) ∧ w'.cell? ⟨(ad200.add ((x5_1).toNat * 7)).block, (ad200.add ((x5_1).toNat * 7)).off + 6, none⟩ = some (.slice A200_6 ((rd_T32 l0 x5_1).f4).length c200_6) ∧ w'.cell? (ad201.add ((x5_1).toNat * 7)) = some (.int .i64 ((rd_T32 l1 x5_1).f0)) ∧ w'.cell? ⟨(ad201.add ((x5_1).toNat * 7)).block, (ad201.add ((x5_1).toNat * 7)).off + 1, none⟩ = some (.int .i64 ((rd_T32 l1 x5_1).f1)) ∧ w'.cell? ⟨(ad201.add ((x5_1).toNat * 7)).block, (ad201.add ((x5_1).toNat * 7)).off + 2, none⟩ = some (.int .i64 ((rd_T32 l1 x5_1).f2.f0)) ∧ w'.cell? ⟨(ad201.add ((x5_1).toNat * 7)).block, (ad201.add ((x5_1).toNat * 7)).off + 3, none⟩ = some (.int .i64 ((rd_T32 l1 x5_1).f2.f1)) ∧ w'.cell? ⟨(ad201.add ((x5_1).toNat * 7)).block, (ad201.add ((x5_1).toNat * 7)).off + 4, none⟩ = some (.string ((rd_T32 l1 x5_1).f2.f2)) ∧ w'.cell? ⟨(ad201.add ((x5_1).toNat * 7)).block, (ad201.add ((x5_1).toNat * 7)).off + 5, none⟩ = some (.string ((rd_T32 l1 x5_1).f3)) ∧ w'.cell? ⟨(ad201.add ((x5_1).toNat * 7)).block, (ad201.add ((x5_1).toNat * 7)).off + 6, none⟩ = some (.slice A201_6 ((rd_T32 l1 x5_1).f4).length c201_6)) (ds := []) (tf 0 10) (by kernel_rfl) rfl rfl ⟨(hb_ HB hw200_0), (hb_ HB hw200_1), (hb_ HB hw200_2), (hb_ HB hw200_3), (hb_ HB hw200_4), (hb_ HB hw200_5), (hb_ HB hw200_6), (hb_ HB hw201_0), (hb_ HB hw201_1), (hb_ HB hw201_2), (hb_ HB hw201_3), (hb_ HB hw201_4), (hb_ HB hw201_5), (hb_ HB hw201_6)⟩ (fun hHeld => ?_); refine with_tabW laws_eqExpS.tab6 laws_eqExpS.bits6 (fun HT_ HW_ => ?_)
        generalize wr.drew = w11 at HB HR200_6 HR201_6 hx200_0 hx200_1 hx200_2 hx200_3 hx200_4 hx200_5 hx200_6 hx201_0 hx201_1 hx201_2 hx201_3 hx201_4 hx201_5 hx201_6 hHeld ⊢
        iterate 3 (refine pl_ ?_)
        refine plx_ 4 #[true, true, true, false, true, false, false, false, false, false] ?_
        refine plx_ 5 #[true, true, true, false, true, true, false, false, false, false] ?_
        refine plx_ 6 #[true, true, true, false, true, true, true, false, false, false] ?_
        refine tlx_ 3 (tf 7 3) ?_
        refine tl_ ?_
        refine one_ (i := 8) (N := some 25) (tf 9 1) rfl rfl (one_of HT_.out (by kernel_rfl)) (by decide) (fun K hK => ?_)
        refine gs_ Tryd.func11 #[.agg #[.int .i64 ((rd_T32 l0 x5_1).f0), .int .i64 ((rd_T32 l0 x5_1).f1), .int .i64 ((rd_T32 l0 x5_1).f2.f0), .int .i64 ((rd_T32 l0 x5_1).f2.f1), .string ((rd_T32 l0 x5_1).f2.f2), .string ((rd_T32 l0 x5_1).f3), .slice A200_6 ((rd_T32 l0 x5_1).f4).length c200_6], .agg #[.int .i64 ((rd_T32 l1 x5_1).f0), .int .i64 ((rd_T32 l1 x5_1).f1), .int .i64 ((rd_T32 l1 x5_1).f2.f0), .int .i64 ((rd_T32 l1 x5_1).f2.f1), .string ((rd_T32 l1 x5_1).f2.f2), .string ((rd_T32 l1 x5_1).f3), .slice A201_6 ((rd_T32 l1 x5_1).f4).length c201_6]] ?_
        with_reducible refine (hE_ ((rd_T32 l0 x5_1).f0) ((rd_T32 l0 x5_1).f1) ((rd_T32 l0 x5_1).f2.f0) ((rd_T32 l0 x5_1).f2.f1) ((rd_T32 l0 x5_1).f2.f2) ((rd_T32 l0 x5_1).f3) _ _ ((rd_T32 l0 x5_1).f4) ((rd_T32 l1 x5_1).f0) ((rd_T32 l1 x5_1).f1) ((rd_T32 l1 x5_1).f2.f0) ((rd_T32 l1 x5_1).f2.f1) ((rd_T32 l1 x5_1).f2.f2) ((rd_T32 l1 x5_1).f3) _ _ ((rd_T32 l1 x5_1).f4) false _ ?side1 ?side2 ?side3 ?side4 A7.out).mono ?_
        (case side1 => exact ck_ (Kd.C_below HR200_6.out HB.out))
        (case side2 => exact HC200_6.out)
        (case side3 => exact ck_ (Kd.C_below HR201_6.out HB.out))
        (case side4 => exact HC201_6.out)
        rintro e w12 ⟨rfl, hb⟩
        refine ⟨_, rfl, ?_⟩
        replace HB := bs_ hb
        (try clear hb)
        (try clear hb2)
        (try clear hk)
        (try clear hi)
        refine hK.out _ _ ⟨(hb_ HB hw200_0), (hb_ HB hw200_1), (hb_ HB hw200_2), (hb_ HB hw200_3), (hb_ HB hw200_4), (hb_ HB hw200_5), (hb_ HB hw200_6), (hb_ HB hw201_0), (hb_ HB hw201_1), (hb_ HB hw201_2), (hb_ HB hw201_3), (hb_ HB hw201_4), (hb_ HB hw201_5), (hb_ HB hw201_6)⟩ (fun hHeld => ?_)
        clear hK K
        refine nm_ ?_
        refine plx_ 9 (tf 10 0) ?_
        refine done_ (done_of HT_.out (by kernel_rfl)) ?_
        try go_wp2
        go_ret
        exact ⟨er_, bb_⟩
      ·rw [if_neg c6] at H
       exact absurd H (by simp)
     ·rw [if_neg c5] at H
      exact absurd H (by simp)
    ·rw [if_neg c4] at H
     have c4b0 : decide (x5_1 < (l0.length : Int)) = false := decide_eq_false c4
     clear c4
     obtain rfl := Option.some.inj H
     go_wp2
     go_ret
     exact ⟨er_, bb_⟩
 ·rw [if_neg c3] at H
  have c3b0 : ((l0.length : Int) == (l1.length : Int)) = false := beq_eq_false_iff_ne.mpr c3
  have c3b1 : ((l0.length : Int) != (l1.length : Int)) = true := bne_iff_ne.mpr c3
  have c3b2 : (l0.length == l1.length) = false := by first | simpa using c3 | (simp at c3 ⊢; omega)
  obtain rfl := Option.some.inj H
  go_enter Tryd.func51, Tryd.ntmps51
  go_wp2
  go_ret
  exact ⟨er_, bb_⟩

/-! ### laws_eqExp: function 11 -/
def laws_eqExp.f : Nat → Int → Int → Int → Int → ByteArray → ByteArray → (List (S32)) → Int → Int → Int → Int → ByteArray → ByteArray → (List (S32)) → Option (Bool)
 | 0, _, _, _, _, _, _, _, _, _, _, _, _, _, _ => none
 | k + 1, a0_0, a0_1, a0_2, a0_3, a0_4, a0_5, l0_6, a1_0, a1_1, a1_2, a1_3, a1_4, a1_5, l1_6 => if a0_0 = a1_0 then (if a0_1 = a1_1 then ((laws_eqValue.f a0_2 a0_3 a0_4 a1_2 a1_3 a1_4).bind fun t205 => (if t205 = true then (if a0_5.toList = a1_5.toList then ((laws_eqExpS.f (laws_eqExp.f k) k l0_6 l1_6).bind fun t206 => (if t206 = true then (some true) else (some false))) else (some false)) else (some false))) else (some false)) else (some false)
set_option maxHeartbeats 8000000 in
set_option maxRecDepth 100000 in
theorem laws_eqExp.calls : ∀ (k : Nat) (a0_0 : Int) (a0_1 : Int) (a0_2 : Int) (a0_3 : Int) (a0_4 : ByteArray) (a0_5 : ByteArray) (A0_6 : Option Addr) (c0_6 : Nat) (l0_6 : List (S32)) (a1_0 : Int) (a1_1 : Int) (a1_2 : Int) (a1_3 : Int) (a1_4 : ByteArray) (a1_5 : ByteArray) (A1_6 : Option Addr) (c1_6 : Nat) (l1_6 : List (S32)) (r : Bool) (w : World) (hr0_6 : Kd.C k32 w A0_6 l0_6.length l0_6) (hc0_6 : l0_6.length ≤ c0_6) (hr1_6 : Kd.C k32 w A1_6 l1_6.length l1_6) (hc1_6 : l1_6.length ≤ c1_6) (h : laws_eqExp.f k a0_0 a0_1 a0_2 a0_3 a0_4 a0_5 l0_6 a1_0 a1_1 a1_2 a1_3 a1_4 a1_5 l1_6 = some r),
  Calls Tryd.prog 11 #[.agg #[.int .i64 a0_0, .int .i64 a0_1, .int .i64 a0_2, .int .i64 a0_3, .string a0_4, .string a0_5, .slice A0_6 l0_6.length c0_6], .agg #[.int .i64 a1_0, .int .i64 a1_1, .int .i64 a1_2, .int .i64 a1_3, .string a1_4, .string a1_5, .slice A1_6 l1_6.length c1_6]] w fun e w' => e = .returned (.bool r) ∧ Below w.heap.size w w' := by
 intro k
 induction k with
 | zero =>
  intro a0_0 a0_1 a0_2 a0_3 a0_4 a0_5 A0_6 c0_6 l0_6 a1_0 a1_1 a1_2 a1_3 a1_4 a1_5 A1_6 c1_6 l1_6 r w hr0_6 hc0_6 hr1_6 hc1_6 h
  exact absurd h (by simp [laws_eqExp.f])
 | succ k ih_ =>
  intro a0_0 a0_1 a0_2 a0_3 a0_4 a0_5 A0_6 c0_6 l0_6 a1_0 a1_1 a1_2 a1_3 a1_4 a1_5 A1_6 c1_6 l1_6 r w hr0_6 hc0_6 hr1_6 hc1_6 h
  have hu32 := Tryd.underlying32
  have hu29 := Tryd.underlying29
  have HR0_6 := Aside0.mk hr0_6
  have HC0_6 := Aside0.mk hc0_6
  clear hr0_6 hc0_6
  have HR1_6 := Aside0.mk hr1_6
  have HC1_6 := Aside0.mk hc1_6
  clear hr1_6 hc1_6
  have HB := Aside0.mk (Below.refl w.heap.size w)
  have H : (if a0_0 = a1_0 then (if a0_1 = a1_1 then ((laws_eqValue.f a0_2 a0_3 a0_4 a1_2 a1_3 a1_4).bind fun t205 => (if t205 = true then (if a0_5.toList = a1_5.toList then ((laws_eqExpS.f (laws_eqExp.f k) k l0_6 l1_6).bind fun t206 => (if t206 = true then (some true) else (some false))) else (some false)) else (some false))) else (some false)) else (some false)) = some r := h
  clear h
  by_cases c3 : a0_0 = a1_0
  ·rw [if_pos c3] at H
   have c3b0 : (a0_0 == a1_0) = true := beq_iff_eq.mpr c3
   have c3b1 : (a0_0 != a1_0) = false := bne_eq_false_iff_eq.mpr c3
   clear c3
   by_cases c4 : a0_1 = a1_1
   ·rw [if_pos c4] at H
    have c4b0 : (a0_1 == a1_1) = true := beq_iff_eq.mpr c4
    have c4b1 : (a0_1 != a1_1) = false := bne_eq_false_iff_eq.mpr c4
    clear c4
    replace H := Option.bind_eq_some_iff.mp H
    obtain ⟨t205, A50, H⟩ := H
    replace H : (if t205 = true then (if a0_5.toList = a1_5.toList then ((laws_eqExpS.f (laws_eqExp.f k) k l0_6 l1_6).bind fun t206 => (if t206 = true then (some true) else (some false))) else (some false)) else (some false)) = some r := H
    have A5 := Aside0.mk A50
    clear A50
    by_cases c6 : t205 = true
    ·subst c6
     have H1 : (if a0_5.toList = a1_5.toList then ((laws_eqExpS.f (laws_eqExp.f k) k l0_6 l1_6).bind fun t206 => (if t206 = true then (some true) else (some false))) else (some false)) = some r := by rw [if_pos rfl] at H; exact H
     clear H
     have H := H1
     clear H1
     by_cases c7 : a0_5.toList = a1_5.toList
     ·rw [if_pos c7] at H
      have c7b0 : (a0_5.toList == a1_5.toList) = true := beq_iff_eq.mpr c7
      have c7b1 : (a0_5.toList != a1_5.toList) = false := bne_eq_false_iff_eq.mpr c7
      clear c7
      replace H := Option.bind_eq_some_iff.mp H
      obtain ⟨t206, A80, H⟩ := H
      replace H : (if t206 = true then (some true) else (some false)) = some r := H
      have A8 := Aside0.mk A80
      clear A80
      by_cases c9 : t206 = true
      ·subst c9
       have H1 : (some true) = some r := by rw [if_pos rfl] at H; exact H
       clear H
       have H := H1
       clear H1
       obtain rfl := Option.some.inj H
       go_enter Tryd.func11, Tryd.ntmps11
       go_wp2_with (first | ((with_reducible refine gate_dst (N := 2) rfl ?_); refine bx_ 2 #[.int .i64 a0_0, .int .i64 a0_1, .int .i64 a0_2, .int .i64 a0_3, .string a0_4, .string a0_5, .slice A0_6 l0_6.length c0_6] 32 ?_; intro gb203 hg w10 hbox hb; have BK203 := Aside0.mk (hbox); have GW203 := gw_ hg; have GE203 := gw_ hg; replace HB := bs_ hb; clear hb hbox hg) | ((with_reducible refine gate_dst (N := 3) rfl ?_); refine bx_ 3 #[.int .i64 a1_0, .int .i64 a1_1, .int .i64 a1_2, .int .i64 a1_3, .string a1_4, .string a1_5, .slice A1_6 l1_6.length c1_6] 32 ?_; intro gb204 hg w11 hbox hb; have BK204 := Aside0.mk (hbox); have GW204 := gw_ hg; have GE204 := gw_ hg; have NB203_204 := nl_ hg BK203; have NB204_203 := ng_ hg BK203; replace BK203 := bkb_ BK203 hb; replace HB := bs_ hb; clear hb hbox hg; have hnb12 := NB203_204.out; have hnc12 := NB204_203.out; obtain ⟨hcz13_0, hcz13_1, hcz13_2, hcz13_3, hcz13_4, hcz13_5, hcz13_6, hfz13_0, hfz13_1, hfz13_2, hfz13_3, hfz13_4, hfz13_5, hfz13_6⟩ := b7_ BK203; obtain ⟨hcz14_0, hcz14_1, hcz14_2, hcz14_3, hcz14_4, hcz14_5, hcz14_6, hfz14_0, hfz14_1, hfz14_2, hfz14_3, hfz14_4, hfz14_5, hfz14_6⟩ := b7_ BK204) | ((with_reducible refine gate_callee (f := 50) rfl ?_); refine gsL_ (some 19) Tryd.func50 #[.agg #[.int .i64 a0_2, .int .i64 a0_3, .string a0_4], .agg #[.int .i64 a1_2, .int .i64 a1_3, .string a1_4]] ?_; (with_reducible refine (laws_eqValue.calls a0_2 a0_3 a0_4 a1_2 a1_3 a1_4 true _ A5.out).mono ?_); rintro e w15 ⟨rfl, hb⟩; refine ⟨_, rfl, ?_⟩; replace BK203 := bkb_ BK203 hb; replace BK204 := bkb_ BK204 hb; replace HB := bs_ hb; (try clear hb); (try clear hb2); (try clear hk); (try clear hi); obtain ⟨hcz16_0, hcz16_1, hcz16_2, hcz16_3, hcz16_4, hcz16_5, hcz16_6, hfz16_0, hfz16_1, hfz16_2, hfz16_3, hfz16_4, hfz16_5, hfz16_6⟩ := b7_ BK203; obtain ⟨hcz17_0, hcz17_1, hcz17_2, hcz17_3, hcz17_4, hcz17_5, hcz17_6, hfz17_0, hfz17_1, hfz17_2, hfz17_3, hfz17_4, hfz17_5, hfz17_6⟩ := b7_ BK204) | ((with_reducible refine gate_callee (f := 51) rfl ?_); refine gsL_ (some 30) Tryd.func51 #[.slice A0_6 l0_6.length c0_6, .slice A1_6 l1_6.length c1_6] ?_; (with_reducible refine (laws_eqExpS.calls (laws_eqExp.f k) ih_ k _ _ l0_6 _ _ l1_6 true _ ?side1 ?side2 ?side3 ?side4 A8.out).mono ?_); (case side1 => exact ck_ (Kd.C_below HR0_6.out HB.out)); (case side2 => exact HC0_6.out); (case side3 => exact ck_ (Kd.C_below HR1_6.out HB.out)); (case side4 => exact HC1_6.out); rintro e w18 ⟨rfl, hb⟩; refine ⟨_, rfl, ?_⟩; replace BK203 := bkb_ BK203 hb; replace BK204 := bkb_ BK204 hb; replace HB := bs_ hb; (try clear hb); (try clear hb2); (try clear hk); (try clear hi)))
       go_ret
       exact ⟨er_, bb_⟩
      ·replace c9 := Bool.eq_false_iff.mpr c9
       subst c9
       have H1 : (some false) = some r := by rw [if_neg (show ¬ (false = true) by decide)] at H; exact H
       clear H
       have H := H1
       clear H1
       obtain rfl := Option.some.inj H
       go_enter Tryd.func11, Tryd.ntmps11
       go_wp2_with (first | ((with_reducible refine gate_dst (N := 2) rfl ?_); refine bx_ 2 #[.int .i64 a0_0, .int .i64 a0_1, .int .i64 a0_2, .int .i64 a0_3, .string a0_4, .string a0_5, .slice A0_6 l0_6.length c0_6] 32 ?_; intro gb203 hg w19 hbox hb; have BK203 := Aside0.mk (hbox); have GW203 := gw_ hg; have GE203 := gw_ hg; replace HB := bs_ hb; clear hb hbox hg) | ((with_reducible refine gate_dst (N := 3) rfl ?_); refine bx_ 3 #[.int .i64 a1_0, .int .i64 a1_1, .int .i64 a1_2, .int .i64 a1_3, .string a1_4, .string a1_5, .slice A1_6 l1_6.length c1_6] 32 ?_; intro gb204 hg w20 hbox hb; have BK204 := Aside0.mk (hbox); have GW204 := gw_ hg; have GE204 := gw_ hg; have NB203_204 := nl_ hg BK203; have NB204_203 := ng_ hg BK203; replace BK203 := bkb_ BK203 hb; replace HB := bs_ hb; clear hb hbox hg; have hnb21 := NB203_204.out; have hnc21 := NB204_203.out; obtain ⟨hcz22_0, hcz22_1, hcz22_2, hcz22_3, hcz22_4, hcz22_5, hcz22_6, hfz22_0, hfz22_1, hfz22_2, hfz22_3, hfz22_4, hfz22_5, hfz22_6⟩ := b7_ BK203; obtain ⟨hcz23_0, hcz23_1, hcz23_2, hcz23_3, hcz23_4, hcz23_5, hcz23_6, hfz23_0, hfz23_1, hfz23_2, hfz23_3, hfz23_4, hfz23_5, hfz23_6⟩ := b7_ BK204) | ((with_reducible refine gate_callee (f := 50) rfl ?_); refine gsL_ (some 19) Tryd.func50 #[.agg #[.int .i64 a0_2, .int .i64 a0_3, .string a0_4], .agg #[.int .i64 a1_2, .int .i64 a1_3, .string a1_4]] ?_; (with_reducible refine (laws_eqValue.calls a0_2 a0_3 a0_4 a1_2 a1_3 a1_4 true _ A5.out).mono ?_); rintro e w24 ⟨rfl, hb⟩; refine ⟨_, rfl, ?_⟩; replace BK203 := bkb_ BK203 hb; replace BK204 := bkb_ BK204 hb; replace HB := bs_ hb; (try clear hb); (try clear hb2); (try clear hk); (try clear hi); obtain ⟨hcz25_0, hcz25_1, hcz25_2, hcz25_3, hcz25_4, hcz25_5, hcz25_6, hfz25_0, hfz25_1, hfz25_2, hfz25_3, hfz25_4, hfz25_5, hfz25_6⟩ := b7_ BK203; obtain ⟨hcz26_0, hcz26_1, hcz26_2, hcz26_3, hcz26_4, hcz26_5, hcz26_6, hfz26_0, hfz26_1, hfz26_2, hfz26_3, hfz26_4, hfz26_5, hfz26_6⟩ := b7_ BK204) | ((with_reducible refine gate_callee (f := 51) rfl ?_); refine gsL_ (some 30) Tryd.func51 #[.slice A0_6 l0_6.length c0_6, .slice A1_6 l1_6.length c1_6] ?_; (with_reducible refine (laws_eqExpS.calls (laws_eqExp.f k) ih_ k _ _ l0_6 _ _ l1_6 false _ ?side1 ?side2 ?side3 ?side4 A8.out).mono ?_); (case side1 => exact ck_ (Kd.C_below HR0_6.out HB.out)); (case side2 => exact HC0_6.out); (case side3 => exact ck_ (Kd.C_below HR1_6.out HB.out)); (case side4 => exact HC1_6.out); rintro e w27 ⟨rfl, hb⟩; refine ⟨_, rfl, ?_⟩; replace BK203 := bkb_ BK203 hb; replace BK204 := bkb_ BK204 hb; replace HB := bs_ hb; (try clear hb); (try clear hb2); (try clear hk); (try clear hi)))
       go_ret
       exact ⟨er_, bb_⟩
     ·rw [if_neg c7] at H
      have c7b0 : (a0_5.toList == a1_5.toList) = false := beq_eq_false_iff_ne.mpr c7
      have c7b1 : (a0_5.toList != a1_5.toList) = true := bne_iff_ne.mpr c7
      obtain rfl := Option.some.inj H
      go_enter Tryd.func11, Tryd.ntmps11
      go_wp2_with (first | ((with_reducible refine gate_dst (N := 2) rfl ?_); refine bx_ 2 #[.int .i64 a0_0, .int .i64 a0_1, .int .i64 a0_2, .int .i64 a0_3, .string a0_4, .string a0_5, .slice A0_6 l0_6.length c0_6] 32 ?_; intro gb203 hg w28 hbox hb; have BK203 := Aside0.mk (hbox); have GW203 := gw_ hg; have GE203 := gw_ hg; replace HB := bs_ hb; clear hb hbox hg) | ((with_reducible refine gate_dst (N := 3) rfl ?_); refine bx_ 3 #[.int .i64 a1_0, .int .i64 a1_1, .int .i64 a1_2, .int .i64 a1_3, .string a1_4, .string a1_5, .slice A1_6 l1_6.length c1_6] 32 ?_; intro gb204 hg w29 hbox hb; have BK204 := Aside0.mk (hbox); have GW204 := gw_ hg; have GE204 := gw_ hg; have NB203_204 := nl_ hg BK203; have NB204_203 := ng_ hg BK203; replace BK203 := bkb_ BK203 hb; replace HB := bs_ hb; clear hb hbox hg; have hnb30 := NB203_204.out; have hnc30 := NB204_203.out; obtain ⟨hcz31_0, hcz31_1, hcz31_2, hcz31_3, hcz31_4, hcz31_5, hcz31_6, hfz31_0, hfz31_1, hfz31_2, hfz31_3, hfz31_4, hfz31_5, hfz31_6⟩ := b7_ BK203; obtain ⟨hcz32_0, hcz32_1, hcz32_2, hcz32_3, hcz32_4, hcz32_5, hcz32_6, hfz32_0, hfz32_1, hfz32_2, hfz32_3, hfz32_4, hfz32_5, hfz32_6⟩ := b7_ BK204) | ((with_reducible refine gate_callee (f := 50) rfl ?_); refine gsL_ (some 19) Tryd.func50 #[.agg #[.int .i64 a0_2, .int .i64 a0_3, .string a0_4], .agg #[.int .i64 a1_2, .int .i64 a1_3, .string a1_4]] ?_; (with_reducible refine (laws_eqValue.calls a0_2 a0_3 a0_4 a1_2 a1_3 a1_4 true _ A5.out).mono ?_); rintro e w33 ⟨rfl, hb⟩; refine ⟨_, rfl, ?_⟩; replace BK203 := bkb_ BK203 hb; replace BK204 := bkb_ BK204 hb; replace HB := bs_ hb; (try clear hb); (try clear hb2); (try clear hk); (try clear hi); obtain ⟨hcz34_0, hcz34_1, hcz34_2, hcz34_3, hcz34_4, hcz34_5, hcz34_6, hfz34_0, hfz34_1, hfz34_2, hfz34_3, hfz34_4, hfz34_5, hfz34_6⟩ := b7_ BK203; obtain ⟨hcz35_0, hcz35_1, hcz35_2, hcz35_3, hcz35_4, hcz35_5, hcz35_6, hfz35_0, hfz35_1, hfz35_2, hfz35_3, hfz35_4, hfz35_5, hfz35_6⟩ := b7_ BK204))
      go_ret
      exact ⟨er_, bb_⟩
    ·replace c6 := Bool.eq_false_iff.mpr c6
     subst c6
     have H1 : (some false) = some r := by rw [if_neg (show ¬ (false = true) by decide)] at H; exact H
     clear H
     have H := H1
     clear H1
     obtain rfl := Option.some.inj H
     go_enter Tryd.func11, Tryd.ntmps11
     go_wp2_with (first | ((with_reducible refine gate_dst (N := 2) rfl ?_); refine bx_ 2 #[.int .i64 a0_0, .int .i64 a0_1, .int .i64 a0_2, .int .i64 a0_3, .string a0_4, .string a0_5, .slice A0_6 l0_6.length c0_6] 32 ?_; intro gb203 hg w36 hbox hb; have BK203 := Aside0.mk (hbox); have GW203 := gw_ hg; have GE203 := gw_ hg; replace HB := bs_ hb; clear hb hbox hg) | ((with_reducible refine gate_dst (N := 3) rfl ?_); refine bx_ 3 #[.int .i64 a1_0, .int .i64 a1_1, .int .i64 a1_2, .int .i64 a1_3, .string a1_4, .string a1_5, .slice A1_6 l1_6.length c1_6] 32 ?_; intro gb204 hg w37 hbox hb; have BK204 := Aside0.mk (hbox); have GW204 := gw_ hg; have GE204 := gw_ hg; have NB203_204 := nl_ hg BK203; have NB204_203 := ng_ hg BK203; replace BK203 := bkb_ BK203 hb; replace HB := bs_ hb; clear hb hbox hg; have hnb38 := NB203_204.out; have hnc38 := NB204_203.out; obtain ⟨hcz39_0, hcz39_1, hcz39_2, hcz39_3, hcz39_4, hcz39_5, hcz39_6, hfz39_0, hfz39_1, hfz39_2, hfz39_3, hfz39_4, hfz39_5, hfz39_6⟩ := b7_ BK203; obtain ⟨hcz40_0, hcz40_1, hcz40_2, hcz40_3, hcz40_4, hcz40_5, hcz40_6, hfz40_0, hfz40_1, hfz40_2, hfz40_3, hfz40_4, hfz40_5, hfz40_6⟩ := b7_ BK204) | ((with_reducible refine gate_callee (f := 50) rfl ?_); refine gsL_ (some 19) Tryd.func50 #[.agg #[.int .i64 a0_2, .int .i64 a0_3, .string a0_4], .agg #[.int .i64 a1_2, .int .i64 a1_3, .string a1_4]] ?_; (with_reducible refine (laws_eqValue.calls a0_2 a0_3 a0_4 a1_2 a1_3 a1_4 false _ A5.out).mono ?_); rintro e w41 ⟨rfl, hb⟩; refine ⟨_, rfl, ?_⟩; replace BK203 := bkb_ BK203 hb; replace BK204 := bkb_ BK204 hb; replace HB := bs_ hb; (try clear hb); (try clear hb2); (try clear hk); (try clear hi)))
     go_ret
     exact ⟨er_, bb_⟩
   ·rw [if_neg c4] at H
    have c4b0 : (a0_1 == a1_1) = false := beq_eq_false_iff_ne.mpr c4
    have c4b1 : (a0_1 != a1_1) = true := bne_iff_ne.mpr c4
    obtain rfl := Option.some.inj H
    go_enter Tryd.func11, Tryd.ntmps11
    go_wp2_with (first | ((with_reducible refine gate_dst (N := 2) rfl ?_); refine bx_ 2 #[.int .i64 a0_0, .int .i64 a0_1, .int .i64 a0_2, .int .i64 a0_3, .string a0_4, .string a0_5, .slice A0_6 l0_6.length c0_6] 32 ?_; intro gb203 hg w42 hbox hb; have BK203 := Aside0.mk (hbox); have GW203 := gw_ hg; have GE203 := gw_ hg; replace HB := bs_ hb; clear hb hbox hg) | ((with_reducible refine gate_dst (N := 3) rfl ?_); refine bx_ 3 #[.int .i64 a1_0, .int .i64 a1_1, .int .i64 a1_2, .int .i64 a1_3, .string a1_4, .string a1_5, .slice A1_6 l1_6.length c1_6] 32 ?_; intro gb204 hg w43 hbox hb; have BK204 := Aside0.mk (hbox); have GW204 := gw_ hg; have GE204 := gw_ hg; have NB203_204 := nl_ hg BK203; have NB204_203 := ng_ hg BK203; replace BK203 := bkb_ BK203 hb; replace HB := bs_ hb; clear hb hbox hg; have hnb44 := NB203_204.out; have hnc44 := NB204_203.out; obtain ⟨hcz45_0, hcz45_1, hcz45_2, hcz45_3, hcz45_4, hcz45_5, hcz45_6, hfz45_0, hfz45_1, hfz45_2, hfz45_3, hfz45_4, hfz45_5, hfz45_6⟩ := b7_ BK203; obtain ⟨hcz46_0, hcz46_1, hcz46_2, hcz46_3, hcz46_4, hcz46_5, hcz46_6, hfz46_0, hfz46_1, hfz46_2, hfz46_3, hfz46_4, hfz46_5, hfz46_6⟩ := b7_ BK204))
    go_ret
    exact ⟨er_, bb_⟩
  ·rw [if_neg c3] at H
   have c3b0 : (a0_0 == a1_0) = false := beq_eq_false_iff_ne.mpr c3
   have c3b1 : (a0_0 != a1_0) = true := bne_iff_ne.mpr c3
   obtain rfl := Option.some.inj H
   go_enter Tryd.func11, Tryd.ntmps11
   go_wp2_with (first | ((with_reducible refine gate_dst (N := 2) rfl ?_); refine bx_ 2 #[.int .i64 a0_0, .int .i64 a0_1, .int .i64 a0_2, .int .i64 a0_3, .string a0_4, .string a0_5, .slice A0_6 l0_6.length c0_6] 32 ?_; intro gb203 hg w47 hbox hb; have BK203 := Aside0.mk (hbox); have GW203 := gw_ hg; have GE203 := gw_ hg; replace HB := bs_ hb; clear hb hbox hg) | ((with_reducible refine gate_dst (N := 3) rfl ?_); refine bx_ 3 #[.int .i64 a1_0, .int .i64 a1_1, .int .i64 a1_2, .int .i64 a1_3, .string a1_4, .string a1_5, .slice A1_6 l1_6.length c1_6] 32 ?_; intro gb204 hg w48 hbox hb; have BK204 := Aside0.mk (hbox); have GW204 := gw_ hg; have GE204 := gw_ hg; have NB203_204 := nl_ hg BK203; have NB204_203 := ng_ hg BK203; replace BK203 := bkb_ BK203 hb; replace HB := bs_ hb; clear hb hbox hg; have hnb49 := NB203_204.out; have hnc49 := NB204_203.out; obtain ⟨hcz50_0, hcz50_1, hcz50_2, hcz50_3, hcz50_4, hcz50_5, hcz50_6, hfz50_0, hfz50_1, hfz50_2, hfz50_3, hfz50_4, hfz50_5, hfz50_6⟩ := b7_ BK203; obtain ⟨hcz51_0, hcz51_1, hcz51_2, hcz51_3, hcz51_4, hcz51_5, hcz51_6, hfz51_0, hfz51_1, hfz51_2, hfz51_3, hfz51_4, hfz51_5, hfz51_6⟩ := b7_ BK204))
   go_ret
   exact ⟨er_, bb_⟩

/-! ### laws_FnExactExpText: function 3 -/
def laws_FnExactExpText.f (k : Nat) (a0_0 : Int) (a0_1 : Int) (a0_2 : Int) (a0_3 : Int) (a0_4 : ByteArray) (a0_5 : ByteArray) (l0_6 : List (S26)) : Option (Bool) := (laws_szExp.f k a0_0 a0_1 a0_2 a0_3 a0_4 a0_5 l0_6 1048576).bind fun t208 => (if t208 < 0 then (some true) else ((laws_toExp.f k a0_0 a0_1 a0_2 a0_3 a0_4 a0_5 l0_6).bind fun bt209 => ((spec_ExpText.f k bt209.1 bt209.2.1 bt209.2.2.1 bt209.2.2.2.1 bt209.2.2.2.2.1 bt209.2.2.2.2.2.1 bt209.2.2.2.2.2.2).bind fun t218 => ((laws_toExp.f k a0_0 a0_1 a0_2 a0_3 a0_4 a0_5 l0_6).bind fun bt219 => ((impl_ExpText.f k bt219.1 bt219.2.1 bt219.2.2.1 bt219.2.2.2.1 bt219.2.2.2.2.1 bt219.2.2.2.2.2.1 bt219.2.2.2.2.2.2).bind fun t229 => (if t229.toList = t218.toList then ((laws_toExp.f k a0_0 a0_1 a0_2 a0_3 a0_4 a0_5 l0_6).bind fun bt230 => ((laws_eqExp.f k bt219.1 bt219.2.1 bt219.2.2.1 bt219.2.2.2.1 bt219.2.2.2.2.1 bt219.2.2.2.2.2.1 bt219.2.2.2.2.2.2 bt230.1 bt230.2.1 bt230.2.2.1 bt230.2.2.2.1 bt230.2.2.2.2.1 bt230.2.2.2.2.2.1 bt230.2.2.2.2.2.2).bind fun t239 => (if t239 = true then (some true) else (some false)))) else (some false)))))))
set_option maxHeartbeats 8000000 in
set_option maxRecDepth 100000 in
theorem laws_FnExactExpText.calls (k : Nat) (a0_0 : Int) (a0_1 : Int) (a0_2 : Int) (a0_3 : Int) (a0_4 : ByteArray) (a0_5 : ByteArray) (A0_6 : Option Addr) (c0_6 : Nat) (l0_6 : List (S26)) (r : Bool) (w : World) (hr0_6 : Kd.C k26 w A0_6 l0_6.length l0_6) (hc0_6 : l0_6.length ≤ c0_6) (h : laws_FnExactExpText.f k a0_0 a0_1 a0_2 a0_3 a0_4 a0_5 l0_6 = some r) (hM : MaxLenIn w := by first | assumption | exact MaxLenIn.drewN (by assumption) _ | exact MaxLenIn.later (by assumption) (by assumption) | exact MaxLenIn.drewN (MaxLenIn.later (by assumption) (by assumption)) _ | exact MaxLenIn.later (by assumption) ⟨by repeat (first | exact Aside0.out (by assumption) | apply below_alloc | apply pw_below_drewN | apply below_drew1 | refine below_set ?_ (Aside0.out (by assumption)))⟩) :
  Calls Tryd.prog 3 #[.agg #[.int .i64 a0_0, .int .i64 a0_1, .int .i64 a0_2, .int .i64 a0_3, .string a0_4, .string a0_5, .slice A0_6 l0_6.length c0_6]] w fun e w' => e = .returned (.bool r) ∧ Below w.heap.size w w' := by
 have hu26 := Tryd.underlying26
 have hu32 := Tryd.underlying32
 have HR0_6 := Aside0.mk hr0_6
 have HC0_6 := Aside0.mk hc0_6
 clear hr0_6 hc0_6
 have HB := Aside0.mk (Below.refl w.heap.size w)
 have H : ((laws_szExp.f k a0_0 a0_1 a0_2 a0_3 a0_4 a0_5 l0_6 1048576).bind fun t208 => (if t208 < 0 then (some true) else ((laws_toExp.f k a0_0 a0_1 a0_2 a0_3 a0_4 a0_5 l0_6).bind fun bt209 => ((spec_ExpText.f k bt209.1 bt209.2.1 bt209.2.2.1 bt209.2.2.2.1 bt209.2.2.2.2.1 bt209.2.2.2.2.2.1 bt209.2.2.2.2.2.2).bind fun t218 => ((laws_toExp.f k a0_0 a0_1 a0_2 a0_3 a0_4 a0_5 l0_6).bind fun bt219 => ((impl_ExpText.f k bt219.1 bt219.2.1 bt219.2.2.1 bt219.2.2.2.1 bt219.2.2.2.2.1 bt219.2.2.2.2.2.1 bt219.2.2.2.2.2.2).bind fun t229 => (if t229.toList = t218.toList then ((laws_toExp.f k a0_0 a0_1 a0_2 a0_3 a0_4 a0_5 l0_6).bind fun bt230 => ((laws_eqExp.f k bt219.1 bt219.2.1 bt219.2.2.1 bt219.2.2.2.1 bt219.2.2.2.2.1 bt219.2.2.2.2.2.1 bt219.2.2.2.2.2.2 bt230.1 bt230.2.1 bt230.2.2.1 bt230.2.2.2.1 bt230.2.2.2.2.1 bt230.2.2.2.2.2.1 bt230.2.2.2.2.2.2).bind fun t239 => (if t239 = true then (some true) else (some false)))) else (some false)))))))) = some r := h
 clear h
 replace H := Option.bind_eq_some_iff.mp H
 obtain ⟨t208, A20, H⟩ := H
 replace H : (if t208 < 0 then (some true) else ((laws_toExp.f k a0_0 a0_1 a0_2 a0_3 a0_4 a0_5 l0_6).bind fun bt209 => ((spec_ExpText.f k bt209.1 bt209.2.1 bt209.2.2.1 bt209.2.2.2.1 bt209.2.2.2.2.1 bt209.2.2.2.2.2.1 bt209.2.2.2.2.2.2).bind fun t218 => ((laws_toExp.f k a0_0 a0_1 a0_2 a0_3 a0_4 a0_5 l0_6).bind fun bt219 => ((impl_ExpText.f k bt219.1 bt219.2.1 bt219.2.2.1 bt219.2.2.2.1 bt219.2.2.2.2.1 bt219.2.2.2.2.2.1 bt219.2.2.2.2.2.2).bind fun t229 => (if t229.toList = t218.toList then ((laws_toExp.f k a0_0 a0_1 a0_2 a0_3 a0_4 a0_5 l0_6).bind fun bt230 => ((laws_eqExp.f k bt219.1 bt219.2.1 bt219.2.2.1 bt219.2.2.2.1 bt219.2.2.2.2.1 bt219.2.2.2.2.2.1 bt219.2.2.2.2.2.2 bt230.1 bt230.2.1 bt230.2.2.1 bt230.2.2.2.1 bt230.2.2.2.2.1 bt230.2.2.2.2.2.1 bt230.2.2.2.2.2.2).bind fun t239 => (if t239 = true then (some true) else (some false)))) else (some false))))))) = some r := H
 have A2 := Aside0.mk A20
 clear A20
 by_cases c3 : t208 < 0
 ·rw [if_pos c3] at H
  have c3b0 : decide (t208 < 0) = true := decide_eq_true c3
  clear c3
  obtain rfl := Option.some.inj H
  go_enter Tryd.func3, Tryd.ntmps3
  go_wp2_with (first | ((with_reducible refine gate_dst (N := 1) rfl ?_); refine bx_ 1 #[.int .i64 a0_0, .int .i64 a0_1, .int .i64 a0_2, .int .i64 a0_3, .string a0_4, .string a0_5, .slice A0_6 l0_6.length c0_6] 26 ?_; intro gb207 hg w4 hbox hb; have BK207 := Aside0.mk (hbox); have GW207 := gw_ hg; have GE207 := gw_ hg; replace HB := bs_ hb; clear hb hbox hg; obtain ⟨hcz5_0, hcz5_1, hcz5_2, hcz5_3, hcz5_4, hcz5_5, hcz5_6, hfz5_0, hfz5_1, hfz5_2, hfz5_3, hfz5_4, hfz5_5, hfz5_6⟩ := b7_ BK207) | ((with_reducible refine gate_callee (f := 7) rfl ?_); refine gsL_ (some 9) Tryd.func7 #[.agg #[.int .i64 a0_0, .int .i64 a0_1, .int .i64 a0_2, .int .i64 a0_3, .string a0_4, .string a0_5, .slice A0_6 l0_6.length c0_6], .int .i64 1048576] ?_; (with_reducible refine (laws_szExp.calls k a0_0 a0_1 a0_2 a0_3 a0_4 a0_5 _ _ l0_6 1048576 t208 _ ?side1 ?side2 A2.out).mono ?_); (case side1 => exact ck_ (Kd.C_below HR0_6.out HB.out)); (case side2 => exact HC0_6.out); rintro e w6 ⟨rfl, hb⟩; refine ⟨_, rfl, ?_⟩; replace BK207 := bkb_ BK207 hb; replace HB := bs_ hb; (try clear hb); (try clear hb2); (try clear hk); (try clear hi)))
  go_ret
  exact ⟨er_, bb_⟩
 ·rw [if_neg c3] at H
  have c3b0 : decide (t208 < 0) = false := decide_eq_false c3
  clear c3
  replace H := Option.bind_eq_some_iff.mp H
  obtain ⟨⟨t209, t210, t211, t212, t213, t214, t215⟩, A70, H⟩ := H
  replace H : ((spec_ExpText.f k t209 t210 t211 t212 t213 t214 t215).bind fun t218 => ((laws_toExp.f k a0_0 a0_1 a0_2 a0_3 a0_4 a0_5 l0_6).bind fun bt219 => ((impl_ExpText.f k bt219.1 bt219.2.1 bt219.2.2.1 bt219.2.2.2.1 bt219.2.2.2.2.1 bt219.2.2.2.2.2.1 bt219.2.2.2.2.2.2).bind fun t229 => (if t229.toList = t218.toList then ((laws_toExp.f k a0_0 a0_1 a0_2 a0_3 a0_4 a0_5 l0_6).bind fun bt230 => ((laws_eqExp.f k bt219.1 bt219.2.1 bt219.2.2.1 bt219.2.2.2.1 bt219.2.2.2.2.1 bt219.2.2.2.2.2.1 bt219.2.2.2.2.2.2 bt230.1 bt230.2.1 bt230.2.2.1 bt230.2.2.2.1 bt230.2.2.2.2.1 bt230.2.2.2.2.2.1 bt230.2.2.2.2.2.2).bind fun t239 => (if t239 = true then (some true) else (some false)))) else (some false))))) = some r := H
  have A7 := Aside0.mk A70
  clear A70
  replace H := Option.bind_eq_some_iff.mp H
  obtain ⟨t218, A80, H⟩ := H
  replace H : ((laws_toExp.f k a0_0 a0_1 a0_2 a0_3 a0_4 a0_5 l0_6).bind fun bt219 => ((impl_ExpText.f k bt219.1 bt219.2.1 bt219.2.2.1 bt219.2.2.2.1 bt219.2.2.2.2.1 bt219.2.2.2.2.2.1 bt219.2.2.2.2.2.2).bind fun t229 => (if t229.toList = t218.toList then ((laws_toExp.f k a0_0 a0_1 a0_2 a0_3 a0_4 a0_5 l0_6).bind fun bt230 => ((laws_eqExp.f k bt219.1 bt219.2.1 bt219.2.2.1 bt219.2.2.2.1 bt219.2.2.2.2.1 bt219.2.2.2.2.2.1 bt219.2.2.2.2.2.2 bt230.1 bt230.2.1 bt230.2.2.1 bt230.2.2.2.1 bt230.2.2.2.2.1 bt230.2.2.2.2.2.1 bt230.2.2.2.2.2.2).bind fun t239 => (if t239 = true then (some true) else (some false)))) else (some false)))) = some r := H
  have A8 := Aside0.mk A80
  clear A80
  replace H := Option.bind_eq_some_iff.mp H
  obtain ⟨⟨t219, t220, t221, t222, t223, t224, t225⟩, A90, H⟩ := H
  replace H : ((impl_ExpText.f k t219 t220 t221 t222 t223 t224 t225).bind fun t229 => (if t229.toList = t218.toList then ((laws_toExp.f k a0_0 a0_1 a0_2 a0_3 a0_4 a0_5 l0_6).bind fun bt230 => ((laws_eqExp.f k t219 t220 t221 t222 t223 t224 t225 bt230.1 bt230.2.1 bt230.2.2.1 bt230.2.2.2.1 bt230.2.2.2.2.1 bt230.2.2.2.2.2.1 bt230.2.2.2.2.2.2).bind fun t239 => (if t239 = true then (some true) else (some false)))) else (some false))) = some r := H
  have A9 := Aside0.mk A90
  clear A90
  replace H := Option.bind_eq_some_iff.mp H
  obtain ⟨t229, A100, H⟩ := H
  replace H : (if t229.toList = t218.toList then ((laws_toExp.f k a0_0 a0_1 a0_2 a0_3 a0_4 a0_5 l0_6).bind fun bt230 => ((laws_eqExp.f k t219 t220 t221 t222 t223 t224 t225 bt230.1 bt230.2.1 bt230.2.2.1 bt230.2.2.2.1 bt230.2.2.2.2.1 bt230.2.2.2.2.2.1 bt230.2.2.2.2.2.2).bind fun t239 => (if t239 = true then (some true) else (some false)))) else (some false)) = some r := H
  have A10 := Aside0.mk A100
  clear A100
  by_cases c11 : t229.toList = t218.toList
  ·rw [if_pos c11] at H
   have c11b0 : (t229.toList == t218.toList) = true := beq_iff_eq.mpr c11
   have c11b1 : (t229.toList != t218.toList) = false := bne_eq_false_iff_eq.mpr c11
   clear c11
   replace H := Option.bind_eq_some_iff.mp H
   obtain ⟨⟨t230, t231, t232, t233, t234, t235, t236⟩, A120, H⟩ := H
   replace H : ((laws_eqExp.f k t219 t220 t221 t222 t223 t224 t225 t230 t231 t232 t233 t234 t235 t236).bind fun t239 => (if t239 = true then (some true) else (some false))) = some r := H
   have A12 := Aside0.mk A120
   clear A120
   replace H := Option.bind_eq_some_iff.mp H
   obtain ⟨t239, A130, H⟩ := H
   replace H : (if t239 = true then (some true) else (some false)) = some r := H
   have A13 := Aside0.mk A130
   clear A130
   by_cases c14 : t239 = true
   ·subst c14
    have H1 : (some true) = some r := by rw [if_pos rfl] at H; exact H
    clear H
    have H := H1
    clear H1
    obtain rfl := Option.some.inj H
    go_enter Tryd.func3, Tryd.ntmps3
    try go_wp2_with (first | ((with_reducible refine gate_dst (N := 1) rfl ?_); refine bx_ 1 #[.int .i64 a0_0, .int .i64 a0_1, .int .i64 a0_2, .int .i64 a0_3, .string a0_4, .string a0_5, .slice A0_6 l0_6.length c0_6] 26 ?_; intro gb207 hg w15 hbox hb; have BK207 := Aside0.mk (hbox); have GW207 := gw_ hg; have GE207 := gw_ hg; replace HB := bs_ hb; clear hb hbox hg; obtain ⟨hcz16_0, hcz16_1, hcz16_2, hcz16_3, hcz16_4, hcz16_5, hcz16_6, hfz16_0, hfz16_1, hfz16_2, hfz16_3, hfz16_4, hfz16_5, hfz16_6⟩ := b7_ BK207) | ((with_reducible refine gate_callee (f := 7) rfl ?_); refine gsL_ (some 9) Tryd.func7 #[.agg #[.int .i64 a0_0, .int .i64 a0_1, .int .i64 a0_2, .int .i64 a0_3, .string a0_4, .string a0_5, .slice A0_6 l0_6.length c0_6], .int .i64 1048576] ?_; (with_reducible refine (laws_szExp.calls k a0_0 a0_1 a0_2 a0_3 a0_4 a0_5 _ _ l0_6 1048576 t208 _ ?side1 ?side2 A2.out).mono ?_); (case side1 => exact ck_ (Kd.C_below HR0_6.out HB.out)); (case side2 => exact HC0_6.out); rintro e w17 ⟨rfl, hb⟩; refine ⟨_, rfl, ?_⟩; replace BK207 := bkb_ BK207 hb; replace HB := bs_ hb; (try clear hb); (try clear hb2); (try clear hk); (try clear hi); obtain ⟨hcz18_0, hcz18_1, hcz18_2, hcz18_3, hcz18_4, hcz18_5, hcz18_6, hfz18_0, hfz18_1, hfz18_2, hfz18_3, hfz18_4, hfz18_5, hfz18_6⟩ := b7_ BK207) | ((with_reducible refine gate_callee (f := 9) rfl ?_); refine gsL_ (some 13) Tryd.func9 #[.agg #[.int .i64 a0_0, .int .i64 a0_1, .int .i64 a0_2, .int .i64 a0_3, .string a0_4, .string a0_5, .slice A0_6 l0_6.length c0_6]] ?_; (with_reducible refine (laws_toExp.calls k a0_0 a0_1 a0_2 a0_3 a0_4 a0_5 _ _ l0_6 t209 t210 t211 t212 t213 t214 t215 _ ?side1 ?side2 A7.out).mono ?_); (case side1 => exact ck_ (Kd.C_below HR0_6.out HB.out)); (case side2 => exact HC0_6.out); rintro e w19 ⟨v216, rfl, ho0, hb⟩; refine ⟨_, rfl, ?_⟩; have HO217 := Aside0.mk (Kd.R_lower ho0 (below_size bb_)); replace BK207 := bkb_ BK207 hb; replace HB := bs_ hb; (try clear hb); (try clear hb2); (try clear hk); (try clear hi); (try clear ho0); obtain ⟨Ao20, co20, eo20⟩ := Kd.R_slice HO217.out; subst eo20) | ((with_reducible refine gate_callee (f := 8) rfl ?_); refine gsL_ (some 14) Tryd.func8 #[.agg #[.int .i64 t209, .int .i64 t210, .int .i64 t211, .int .i64 t212, .string t213, .string t214, .slice Ao20 t215.length co20]] ?_; (with_reducible refine (spec_ExpText.calls k t209 t210 t211 t212 t213 t214 _ _ t215 t218 _ ?side1 ?side2 A8.out).mono ?_); (case side1 => exact ck_ (Kd.R_reads' HO217.out).2.2); (case side2 => exact (Kd.R_reads' HO217.out).2.1); rintro e w21 ⟨rfl, hb⟩; refine ⟨_, rfl, ?_⟩; replace HO217 := Aside0.mk (Kd.R_below (rk_ HO217.out) hb); replace BK207 := bkb_ BK207 hb; replace HB := bs_ hb; (try clear hb); (try clear hb2); (try clear hk); (try clear hi); obtain ⟨hcz22_0, hcz22_1, hcz22_2, hcz22_3, hcz22_4, hcz22_5, hcz22_6, hfz22_0, hfz22_1, hfz22_2, hfz22_3, hfz22_4, hfz22_5, hfz22_6⟩ := b7_ BK207) | ((with_reducible refine gate_callee (f := 9) rfl ?_); refine gsL_ (some 16) Tryd.func9 #[.agg #[.int .i64 a0_0, .int .i64 a0_1, .int .i64 a0_2, .int .i64 a0_3, .string a0_4, .string a0_5, .slice A0_6 l0_6.length c0_6]] ?_; (with_reducible refine (laws_toExp.calls k a0_0 a0_1 a0_2 a0_3 a0_4 a0_5 _ _ l0_6 t219 t220 t221 t222 t223 t224 t225 _ ?side1 ?side2 A9.out).mono ?_); (case side1 => exact ck_ (Kd.C_below HR0_6.out HB.out)); (case side2 => exact HC0_6.out); rintro e w23 ⟨v226, rfl, ho0, hb⟩; refine ⟨_, rfl, ?_⟩; have HO227 := Aside0.mk (Kd.R_lower (Kd.R_new' ho0 (Kd.R_lt (rk_ HO217.out))) (below_size bb_)); replace HO217 := Aside0.mk (Kd.R_elder' (rk_ HO217.out) (Kd.R_base ho0) hb); replace BK207 := bkb_ BK207 hb; replace HB := bs_ hb; (try clear hb); (try clear hb2); (try clear hk); (try clear hi); (try clear ho0)) | ((with_reducible refine gate_dst (N := 5) rfl ?_); refine bx_ 5 #[.int .i64 0, .int .i64 0, .int .i64 0, .int .i64 0, .string (⟨#[]⟩ : ByteArray), .string (⟨#[]⟩ : ByteArray), .slice none 0 0] 32 ?_; intro gb228 hg w24 hbox hb; have BK228 := Aside0.mk (hbox); have GW228 := gw_ hg; have GE228 := gw_ hg; have NB207_228 := nl_ hg BK207; have NB228_207 := ng_ hg BK207; replace HO217 := Aside0.mk (Kd.R_below (Kd.R_elderB (rk_ HO217.out) gb228 (Nat.le_of_eq hg.symm)) hb); replace HO227 := Aside0.mk (Kd.R_below (Kd.R_elderB (rk_ HO227.out) gb228 (Nat.le_of_eq hg.symm)) hb); replace BK207 := bkb_ BK207 hb; replace HB := bs_ hb; clear hb hbox hg; have hnb25 := NB228_207.out; have hnc25 := NB207_228.out; obtain ⟨hcz26_0, hcz26_1, hcz26_2, hcz26_3, hcz26_4, hcz26_5, hcz26_6, hfz26_0, hfz26_1, hfz26_2, hfz26_3, hfz26_4, hfz26_5, hfz26_6⟩ := b7_ BK228; obtain ⟨Ao27, co27, eo27⟩ := Kd.R_slice HO227.out; subst eo27) | ((with_reducible refine gate_callee (f := 10) rfl ?_); refine gsL_ (some 18) Tryd.func10 #[.agg #[.int .i64 t219, .int .i64 t220, .int .i64 t221, .int .i64 t222, .string t223, .string t224, .slice Ao27 t225.length co27]] ?_; (with_reducible refine (impl_ExpText.calls k t219 t220 t221 t222 t223 t224 _ _ t225 t229 _ ?side1 ?side2 A10.out).mono ?_); (case side1 => refine (Kd.R_reads' (e := 32) (base := w.heap.size) (ok := fun k_ => ((True ∧ some k_ ≠ (.slice Ao20 t215.length co20 : Value).ownBlock) ∧ k_ ≠ gb228)) (n := t225.length) (c := co27) ?_).2.2; exact (rk_ (Kd.R_mono (Kd.R_far (p := ⟨gb228, 6, none⟩) (Kd.R_far (p := ⟨gb228, 5, none⟩) (Kd.R_far (p := ⟨gb228, 4, none⟩) (Kd.R_far (p := ⟨gb228, 3, none⟩) (Kd.R_far (p := ⟨gb228, 2, none⟩) (Kd.R_far (p := ⟨gb228, 1, none⟩) (Kd.R_far (p := ⟨gb228, 0, none⟩) (Kd.R_mono HO227.out (fun k_ hk => (⟨hk, hk.2⟩ : _ ∧ k_ ≠ gb228))) (fun _ hk => hk.2) (.int .i64 t219)) (fun _ hk => hk.2) (.int .i64 t220)) (fun _ hk => hk.2) (.int .i64 t221)) (fun _ hk => hk.2) (.int .i64 t222)) (fun _ hk => hk.2) (.string t223)) (fun _ hk => hk.2) (.string t224)) (fun _ hk => hk.2) (.slice Ao27 t225.length co27)) (fun _ h_ => h_.1)))); (case side2 => exact (Kd.R_reads' HO227.out).2.1); rintro e w28 ⟨rfl, hb⟩; refine ⟨_, rfl, ?_⟩; replace HO217 := Aside0.mk (Kd.R_below (rk_ (Kd.R_mono (Kd.R_far (p := ⟨gb228, 6, none⟩) (Kd.R_far (p := ⟨gb228, 5, none⟩) (Kd.R_far (p := ⟨gb228, 4, none⟩) (Kd.R_far (p := ⟨gb228, 3, none⟩) (Kd.R_far (p := ⟨gb228, 2, none⟩) (Kd.R_far (p := ⟨gb228, 1, none⟩) (Kd.R_far (p := ⟨gb228, 0, none⟩) (Kd.R_mono HO217.out (fun k_ hk => (⟨hk, hk.2⟩ : _ ∧ k_ ≠ gb228))) (fun _ hk => hk.2) (.int .i64 t219)) (fun _ hk => hk.2) (.int .i64 t220)) (fun _ hk => hk.2) (.int .i64 t221)) (fun _ hk => hk.2) (.int .i64 t222)) (fun _ hk => hk.2) (.string t223)) (fun _ hk => hk.2) (.string t224)) (fun _ hk => hk.2) (.slice Ao27 t225.length co27)) (fun _ h_ => h_.1))) hb); replace HO227 := Aside0.mk (Kd.R_below (rk_ (Kd.R_mono (Kd.R_far (p := ⟨gb228, 6, none⟩) (Kd.R_far (p := ⟨gb228, 5, none⟩) (Kd.R_far (p := ⟨gb228, 4, none⟩) (Kd.R_far (p := ⟨gb228, 3, none⟩) (Kd.R_far (p := ⟨gb228, 2, none⟩) (Kd.R_far (p := ⟨gb228, 1, none⟩) (Kd.R_far (p := ⟨gb228, 0, none⟩) (Kd.R_mono HO227.out (fun k_ hk => (⟨hk, hk.2⟩ : _ ∧ k_ ≠ gb228))) (fun _ hk => hk.2) (.int .i64 t219)) (fun _ hk => hk.2) (.int .i64 t220)) (fun _ hk => hk.2) (.int .i64 t221)) (fun _ hk => hk.2) (.int .i64 t222)) (fun _ hk => hk.2) (.string t223)) (fun _ hk => hk.2) (.string t224)) (fun _ hk => hk.2) (.slice Ao27 t225.length co27)) (fun _ h_ => h_.1))) hb); replace BK207 := Aside0.mk (blk_below (g := gb207) (o := .cells #[.int .i64 a0_0, .int .i64 a0_1, .int .i64 a0_2, .int .i64 a0_3, .string a0_4, .string a0_5, .slice A0_6 l0_6.length c0_6] 26 (0, 0)) (bf7_ NB207_228 (bkx_ BK207.out)) hb); replace BK228 := Aside0.mk (blk_below (g := gb228) (o := .cells #[.int .i64 t219, .int .i64 t220, .int .i64 t221, .int .i64 t222, .string t223, .string t224, .slice Ao27 t225.length co27] 32 (0, 0)) (bp7_ (bkx_ BK228.out)) hb); replace HB := bs_ hb; (try clear hb); (try clear hb2); (try clear hk); (try clear hi)))
    replace HO217 := Aside0.mk (Kd.R_drew HO217.out)
    replace HO227 := Aside0.mk (Kd.R_drew HO227.out)
    replace BK207 := Aside0.mk (blk_drew BK207.out)
    replace BK228 := Aside0.mk (blk_drew BK228.out)
    replace HB := Aside0.mk (below_drew1 HB.out)
    refine start_ (n := 5) (S := fun w' => w'.cell? ⟨gb228, 0, none⟩ = some (.int .i64 t219) ∧ w'.cell? ⟨gb228, 1, none⟩ = some (.int .i64 t220) ∧ w'.cell? ⟨gb228, 2, none⟩ = some (.int .i64 t221) ∧ w'.cell? ⟨gb228, 3, none⟩ = some (.int .i64 t222) ∧ w'.cell? ⟨gb228, 4, none⟩ = some (.string t223) ∧ w'.cell? ⟨gb228, 5, none⟩ = some (.string t224) ∧ w'.cell? ⟨gb228, 6, none⟩ = some (.slice Ao27 t225.length co27) ∧ w'.cell? ⟨gb207, 0, none⟩ = some (.int .i64 a0_0) ∧ w'.cell? ⟨gb207, 1, none⟩ = some (.int .i64 a0_1) ∧ w'.cell? ⟨gb207, 2, none⟩ = some (.int .i64 a0_2) ∧ w'.cell? ⟨gb207, 3, none⟩ = some (.int .i64 a0_3) ∧ w'.cell? ⟨gb207, 4, none⟩ = some (.string a0_4) ∧ w'.cell? ⟨gb207, 5, none⟩ = some (.string a0_5) ∧ w'.cell? ⟨gb207, 6, none⟩ = some (.slice A0_6 l0_6.length c0_6)) (ds := []) (tf 0 5) (by kernel_rfl) rfl rfl ⟨bc_ BK228 0, bc_ BK228 1, bc_ BK228 2, bc_ BK228 3, bc_ BK228 4, bc_ BK228 5, bc_ BK228 6, bc_ BK207 0, bc_ BK207 1, bc_ BK207 2, bc_ BK207 3, bc_ BK207 4, bc_ BK207 5, bc_ BK207 6⟩ (fun hHeld => ?_)
    generalize w28.drew = w29 at HO217 HO227 BK207 BK228 HB hHeld ⊢
    refine take_ (i := 0) (N := some 22) (v := ?_) (a' := ?_) (tf 1 4) rfl rfl (by kernel_rfl) (fun _ _ _ h => h) (Or.inl ⟨by rfl, ?_⟩) hHeld ?_ ?_
    rotate_left
    ·rintro w' ⟨s0, s1, s2, s3, s4, s5, s6, s7, s8, s9, s10, s11, s12, s13⟩
     go_simp
     with_reducible rfl
    rotate_left
    ·simp only [Act.put, List.setIfInBounds_toArray, List.set_cons_zero, List.set_cons_succ, i64_w, i32_w]
     rfl
    refine take_ (i := 1) (N := some 23) (v := ?_) (a' := ?_) (tf 2 3) rfl rfl (by kernel_rfl) (fun _ _ _ h => h) (Or.inl ⟨by rfl, ?_⟩) hHeld ?_ ?_
    rotate_left
    ·rintro w' ⟨s0, s1, s2, s3, s4, s5, s6, s7, s8, s9, s10, s11, s12, s13⟩
     go_simp
     with_reducible rfl
    rotate_left
    ·simp only [Act.put, List.setIfInBounds_toArray, List.set_cons_zero, List.set_cons_succ, i64_w, i32_w]
     rfl
    refine one_ (i := 2) (N := some 24) (tf 3 2) rfl rfl (by kernel_rfl) (by decide) (fun K hK => ?_)
    refine gs_ Tryd.func9 #[.agg #[.int .i64 a0_0, .int .i64 a0_1, .int .i64 a0_2, .int .i64 a0_3, .string a0_4, .string a0_5, .slice A0_6 l0_6.length c0_6]] ?_
    with_reducible refine (laws_toExp.calls k a0_0 a0_1 a0_2 a0_3 a0_4 a0_5 _ _ l0_6 t230 t231 t232 t233 t234 t235 t236 _ ?side1 ?side2 A12.out).mono ?_
    (case side1 => exact ck_ (Kd.C_below HR0_6.out HB.out))
    (case side2 => exact HC0_6.out)
    rintro e w30 ⟨v237, rfl, ho0, hb⟩
    refine ⟨_, rfl, ?_⟩
    have HO238 := Aside0.mk (Kd.R_lower (Kd.R_newB (Kd.R_new' (Kd.R_new' ho0 (Kd.R_lt (rk_ HO217.out))) (Kd.R_lt (rk_ HO227.out))) (g := gb228) (o := .cells #[.int .i64 t219, .int .i64 t220, .int .i64 t221, .int .i64 t222, .string t223, .string t224, .slice Ao27 t225.length co27] 32 (0, 0)) (bkx_ BK228.out)) (below_size bb_))
    replace HO217 := Aside0.mk (Kd.R_elder' (rk_ HO217.out) (Kd.R_base ho0) hb)
    replace HO227 := Aside0.mk (Kd.R_elder' (rk_ HO227.out) (Kd.R_base ho0) hb)
    replace BK207 := bkb_ BK207 hb
    replace BK228 := bkb_ BK228 hb
    replace HB := bs_ hb
    (try clear hb)
    (try clear hb2)
    (try clear hk)
    (try clear hi)
    (try clear ho0)
    obtain ⟨Ao31, co31, eo31⟩ := Kd.R_slice HO238.out
    (first | subst eo31 | (injection eo31 with f1_ f2_ f3_; have f4_ := f1_.symm; have f5_ := f3_.symm; clear f1_ f2_ f3_; subst f4_; subst f5_))
    refine hK.out _ _ ⟨bc_ BK228 0, bc_ BK228 1, bc_ BK228 2, bc_ BK228 3, bc_ BK228 4, bc_ BK228 5, bc_ BK228 6, bc_ BK207 0, bc_ BK207 1, bc_ BK207 2, bc_ BK207 3, bc_ BK207 4, bc_ BK207 5, bc_ BK207 6⟩ (fun hHeld => ?_)
    clear hK K
    refine nm_ ?_
    refine one_ (i := 3) (N := some 25) (tf 4 1) rfl rfl (by kernel_rfl) (by decide) (fun K hK => ?_)
    refine gs_ Tryd.func11 #[.agg #[.int .i64 t219, .int .i64 t220, .int .i64 t221, .int .i64 t222, .string t223, .string t224, .slice Ao27 t225.length co27], .agg #[.int .i64 t230, .int .i64 t231, .int .i64 t232, .int .i64 t233, .string t234, .string t235, .slice Ao31 t236.length co31]] ?_
    with_reducible refine (laws_eqExp.calls k t219 t220 t221 t222 t223 t224 _ _ t225 t230 t231 t232 t233 t234 t235 _ _ t236 true _ ?side1 ?side2 ?side3 ?side4 A13.out).mono ?_
    (case side1 => exact ck_ (Kd.R_reads' HO227.out).2.2)
    (case side2 => exact (Kd.R_reads' HO227.out).2.1)
    (case side3 => exact ck_ (Kd.R_reads' HO238.out).2.2)
    (case side4 => exact (Kd.R_reads' HO238.out).2.1)
    rintro e w32 ⟨rfl, hb⟩
    refine ⟨_, rfl, ?_⟩
    replace HO217 := Aside0.mk (Kd.R_below (rk_ HO217.out) hb)
    replace HO227 := Aside0.mk (Kd.R_below (rk_ HO227.out) hb)
    replace HO238 := Aside0.mk (Kd.R_below (rk_ HO238.out) hb)
    replace BK207 := bkb_ BK207 hb
    replace BK228 := bkb_ BK228 hb
    replace HB := bs_ hb
    (try clear hb)
    (try clear hb2)
    (try clear hk)
    (try clear hi)
    refine hK.out _ _ ⟨bc_ BK228 0, bc_ BK228 1, bc_ BK228 2, bc_ BK228 3, bc_ BK228 4, bc_ BK228 5, bc_ BK228 6, bc_ BK207 0, bc_ BK207 1, bc_ BK207 2, bc_ BK207 3, bc_ BK207 4, bc_ BK207 5, bc_ BK207 6⟩ (fun hHeld => ?_)
    clear hK K
    refine nm_ ?_
    refine pure_ (i := 4) (N := some 26) (v := ?_) (a' := ?_) (tf 5 0) rfl rfl (by kernel_rfl) (fun _ _ _ h => h) (Or.inl ⟨by rfl, ?_⟩) ?_ ?_
    rotate_left
    ·intro w'
     go_simp
     with_reducible rfl
    rotate_left
    ·simp only [Act.put, List.setIfInBounds_toArray, List.set_cons_zero, List.set_cons_succ, i64_w, i32_w]
     rfl
    refine done_ (by kernel_rfl) ?_
    try go_wp2
    go_ret
    exact ⟨er_, bb_⟩
   ·replace c14 := Bool.eq_false_iff.mpr c14
    subst c14
    have H1 : (some false) = some r := by rw [if_neg (show ¬ (false = true) by decide)] at H; exact H
    clear H
    have H := H1
    clear H1
    obtain rfl := Option.some.inj H
    go_enter Tryd.func3, Tryd.ntmps3
    try go_wp2_with (first | ((with_reducible refine gate_dst (N := 1) rfl ?_); refine bx_ 1 #[.int .i64 a0_0, .int .i64 a0_1, .int .i64 a0_2, .int .i64 a0_3, .string a0_4, .string a0_5, .slice A0_6 l0_6.length c0_6] 26 ?_; intro gb207 hg w33 hbox hb; have BK207 := Aside0.mk (hbox); have GW207 := gw_ hg; have GE207 := gw_ hg; replace HB := bs_ hb; clear hb hbox hg; obtain ⟨hcz34_0, hcz34_1, hcz34_2, hcz34_3, hcz34_4, hcz34_5, hcz34_6, hfz34_0, hfz34_1, hfz34_2, hfz34_3, hfz34_4, hfz34_5, hfz34_6⟩ := b7_ BK207) | ((with_reducible refine gate_callee (f := 7) rfl ?_); refine gsL_ (some 9) Tryd.func7 #[.agg #[.int .i64 a0_0, .int .i64 a0_1, .int .i64 a0_2, .int .i64 a0_3, .string a0_4, .string a0_5, .slice A0_6 l0_6.length c0_6], .int .i64 1048576] ?_; (with_reducible refine (laws_szExp.calls k a0_0 a0_1 a0_2 a0_3 a0_4 a0_5 _ _ l0_6 1048576 t208 _ ?side1 ?side2 A2.out).mono ?_); (case side1 => exact ck_ (Kd.C_below HR0_6.out HB.out)); (case side2 => exact HC0_6.out); rintro e w35 ⟨rfl, hb⟩; refine ⟨_, rfl, ?_⟩; replace BK207 := bkb_ BK207 hb; replace HB := bs_ hb; (try clear hb); (try clear hb2); (try clear hk); (try clear hi); obtain ⟨hcz36_0, hcz36_1, hcz36_2, hcz36_3, hcz36_4, hcz36_5, hcz36_6, hfz36_0, hfz36_1, hfz36_2, hfz36_3, hfz36_4, hfz36_5, hfz36_6⟩ := b7_ BK207) | ((with_reducible refine gate_callee (f := 9) rfl ?_); refine gsL_ (some 13) Tryd.func9 #[.agg #[.int .i64 a0_0, .int .i64 a0_1, .int .i64 a0_2, .int .i64 a0_3, .string a0_4, .string a0_5, .slice A0_6 l0_6.length c0_6]] ?_; (with_reducible refine (laws_toExp.calls k a0_0 a0_1 a0_2 a0_3 a0_4 a0_5 _ _ l0_6 t209 t210 t211 t212 t213 t214 t215 _ ?side1 ?side2 A7.out).mono ?_); (case side1 => exact ck_ (Kd.C_below HR0_6.out HB.out)); (case side2 => exact HC0_6.out); rintro e w37 ⟨v216, rfl, ho0, hb⟩; refine ⟨_, rfl, ?_⟩; have HO217 := Aside0.mk (Kd.R_lower ho0 (below_size bb_)); replace BK207 := bkb_ BK207 hb; replace HB := bs_ hb; (try clear hb); (try clear hb2); (try clear hk); (try clear hi); (try clear ho0); obtain ⟨Ao38, co38, eo38⟩ := Kd.R_slice HO217.out; subst eo38) | ((with_reducible refine gate_callee (f := 8) rfl ?_); refine gsL_ (some 14) Tryd.func8 #[.agg #[.int .i64 t209, .int .i64 t210, .int .i64 t211, .int .i64 t212, .string t213, .string t214, .slice Ao38 t215.length co38]] ?_; (with_reducible refine (spec_ExpText.calls k t209 t210 t211 t212 t213 t214 _ _ t215 t218 _ ?side1 ?side2 A8.out).mono ?_); (case side1 => exact ck_ (Kd.R_reads' HO217.out).2.2); (case side2 => exact (Kd.R_reads' HO217.out).2.1); rintro e w39 ⟨rfl, hb⟩; refine ⟨_, rfl, ?_⟩; replace HO217 := Aside0.mk (Kd.R_below (rk_ HO217.out) hb); replace BK207 := bkb_ BK207 hb; replace HB := bs_ hb; (try clear hb); (try clear hb2); (try clear hk); (try clear hi); obtain ⟨hcz40_0, hcz40_1, hcz40_2, hcz40_3, hcz40_4, hcz40_5, hcz40_6, hfz40_0, hfz40_1, hfz40_2, hfz40_3, hfz40_4, hfz40_5, hfz40_6⟩ := b7_ BK207) | ((with_reducible refine gate_callee (f := 9) rfl ?_); refine gsL_ (some 16) Tryd.func9 #[.agg #[.int .i64 a0_0, .int .i64 a0_1, .int .i64 a0_2, .int .i64 a0_3, .string a0_4, .string a0_5, .slice A0_6 l0_6.length c0_6]] ?_; (with_reducible refine (laws_toExp.calls k a0_0 a0_1 a0_2 a0_3 a0_4 a0_5 _ _ l0_6 t219 t220 t221 t222 t223 t224 t225 _ ?side1 ?side2 A9.out).mono ?_); (case side1 => exact ck_ (Kd.C_below HR0_6.out HB.out)); (case side2 => exact HC0_6.out); rintro e w41 ⟨v226, rfl, ho0, hb⟩; refine ⟨_, rfl, ?_⟩; have HO227 := Aside0.mk (Kd.R_lower (Kd.R_new' ho0 (Kd.R_lt (rk_ HO217.out))) (below_size bb_)); replace HO217 := Aside0.mk (Kd.R_elder' (rk_ HO217.out) (Kd.R_base ho0) hb); replace BK207 := bkb_ BK207 hb; replace HB := bs_ hb; (try clear hb); (try clear hb2); (try clear hk); (try clear hi); (try clear ho0)) | ((with_reducible refine gate_dst (N := 5) rfl ?_); refine bx_ 5 #[.int .i64 0, .int .i64 0, .int .i64 0, .int .i64 0, .string (⟨#[]⟩ : ByteArray), .string (⟨#[]⟩ : ByteArray), .slice none 0 0] 32 ?_; intro gb228 hg w42 hbox hb; have BK228 := Aside0.mk (hbox); have GW228 := gw_ hg; have GE228 := gw_ hg; have NB207_228 := nl_ hg BK207; have NB228_207 := ng_ hg BK207; replace HO217 := Aside0.mk (Kd.R_below (Kd.R_elderB (rk_ HO217.out) gb228 (Nat.le_of_eq hg.symm)) hb); replace HO227 := Aside0.mk (Kd.R_below (Kd.R_elderB (rk_ HO227.out) gb228 (Nat.le_of_eq hg.symm)) hb); replace BK207 := bkb_ BK207 hb; replace HB := bs_ hb; clear hb hbox hg; have hnb43 := NB228_207.out; have hnc43 := NB207_228.out; obtain ⟨hcz44_0, hcz44_1, hcz44_2, hcz44_3, hcz44_4, hcz44_5, hcz44_6, hfz44_0, hfz44_1, hfz44_2, hfz44_3, hfz44_4, hfz44_5, hfz44_6⟩ := b7_ BK228; obtain ⟨Ao45, co45, eo45⟩ := Kd.R_slice HO227.out; subst eo45) | ((with_reducible refine gate_callee (f := 10) rfl ?_); refine gsL_ (some 18) Tryd.func10 #[.agg #[.int .i64 t219, .int .i64 t220, .int .i64 t221, .int .i64 t222, .string t223, .string t224, .slice Ao45 t225.length co45]] ?_; (with_reducible refine (impl_ExpText.calls k t219 t220 t221 t222 t223 t224 _ _ t225 t229 _ ?side1 ?side2 A10.out).mono ?_); (case side1 => refine (Kd.R_reads' (e := 32) (base := w.heap.size) (ok := fun k_ => ((True ∧ some k_ ≠ (.slice Ao38 t215.length co38 : Value).ownBlock) ∧ k_ ≠ gb228)) (n := t225.length) (c := co45) ?_).2.2; exact (rk_ (Kd.R_mono (Kd.R_far (p := ⟨gb228, 6, none⟩) (Kd.R_far (p := ⟨gb228, 5, none⟩) (Kd.R_far (p := ⟨gb228, 4, none⟩) (Kd.R_far (p := ⟨gb228, 3, none⟩) (Kd.R_far (p := ⟨gb228, 2, none⟩) (Kd.R_far (p := ⟨gb228, 1, none⟩) (Kd.R_far (p := ⟨gb228, 0, none⟩) (Kd.R_mono HO227.out (fun k_ hk => (⟨hk, hk.2⟩ : _ ∧ k_ ≠ gb228))) (fun _ hk => hk.2) (.int .i64 t219)) (fun _ hk => hk.2) (.int .i64 t220)) (fun _ hk => hk.2) (.int .i64 t221)) (fun _ hk => hk.2) (.int .i64 t222)) (fun _ hk => hk.2) (.string t223)) (fun _ hk => hk.2) (.string t224)) (fun _ hk => hk.2) (.slice Ao45 t225.length co45)) (fun _ h_ => h_.1)))); (case side2 => exact (Kd.R_reads' HO227.out).2.1); rintro e w46 ⟨rfl, hb⟩; refine ⟨_, rfl, ?_⟩; replace HO217 := Aside0.mk (Kd.R_below (rk_ (Kd.R_mono (Kd.R_far (p := ⟨gb228, 6, none⟩) (Kd.R_far (p := ⟨gb228, 5, none⟩) (Kd.R_far (p := ⟨gb228, 4, none⟩) (Kd.R_far (p := ⟨gb228, 3, none⟩) (Kd.R_far (p := ⟨gb228, 2, none⟩) (Kd.R_far (p := ⟨gb228, 1, none⟩) (Kd.R_far (p := ⟨gb228, 0, none⟩) (Kd.R_mono HO217.out (fun k_ hk => (⟨hk, hk.2⟩ : _ ∧ k_ ≠ gb228))) (fun _ hk => hk.2) (.int .i64 t219)) (fun _ hk => hk.2) (.int .i64 t220)) (fun _ hk => hk.2) (.int .i64 t221)) (fun _ hk => hk.2) (.int .i64 t222)) (fun _ hk => hk.2) (.string t223)) (fun _ hk => hk.2) (.string t224)) (fun _ hk => hk.2) (.slice Ao45 t225.length co45)) (fun _ h_ => h_.1))) hb); replace HO227 := Aside0.mk (Kd.R_below (rk_ (Kd.R_mono (Kd.R_far (p := ⟨gb228, 6, none⟩) (Kd.R_far (p := ⟨gb228, 5, none⟩) (Kd.R_far (p := ⟨gb228, 4, none⟩) (Kd.R_far (p := ⟨gb228, 3, none⟩) (Kd.R_far (p := ⟨gb228, 2, none⟩) (Kd.R_far (p := ⟨gb228, 1, none⟩) (Kd.R_far (p := ⟨gb228, 0, none⟩) (Kd.R_mono HO227.out (fun k_ hk => (⟨hk, hk.2⟩ : _ ∧ k_ ≠ gb228))) (fun _ hk => hk.2) (.int .i64 t219)) (fun _ hk => hk.2) (.int .i64 t220)) (fun _ hk => hk.2) (.int .i64 t221)) (fun _ hk => hk.2) (.int .i64 t222)) (fun _ hk => hk.2) (.string t223)) (fun _ hk => hk.2) (.string t224)) (fun _ hk => hk.2) (.slice Ao45 t225.length co45)) (fun _ h_ => h_.1))) hb); replace BK207 := Aside0.mk (blk_below (g := gb207) (o := .cells #[.int .i64 a0_0, .int .i64 a0_1, .int .i64 a0_2, .int .i64 a0_3, .string a0_4, .string a0_5, .slice A0_6 l0_6.length c0_6] 26 (0, 0)) (bf7_ NB207_228 (bkx_ BK207.out)) hb); replace BK228 := Aside0.mk (blk_below (g := gb228) (o := .cells #[.int .i64 t219, .int .i64 t220, .int .i64 t221, .int .i64 t222, .string t223, .string t224, .slice Ao45 t225.length co45] 32 (0, 0)) (bp7_ (bkx_ BK228.out)) hb); replace HB := bs_ hb; (try clear hb); (try clear hb2); (try clear hk); (try clear hi)))
    replace HO217 := Aside0.mk (Kd.R_drew HO217.out)
    replace HO227 := Aside0.mk (Kd.R_drew HO227.out)
    replace BK207 := Aside0.mk (blk_drew BK207.out)
    replace BK228 := Aside0.mk (blk_drew BK228.out)
    replace HB := Aside0.mk (below_drew1 HB.out)
    refine start_ (n := 5) (S := fun w' => w'.cell? ⟨gb228, 0, none⟩ = some (.int .i64 t219) ∧ w'.cell? ⟨gb228, 1, none⟩ = some (.int .i64 t220) ∧ w'.cell? ⟨gb228, 2, none⟩ = some (.int .i64 t221) ∧ w'.cell? ⟨gb228, 3, none⟩ = some (.int .i64 t222) ∧ w'.cell? ⟨gb228, 4, none⟩ = some (.string t223) ∧ w'.cell? ⟨gb228, 5, none⟩ = some (.string t224) ∧ w'.cell? ⟨gb228, 6, none⟩ = some (.slice Ao45 t225.length co45) ∧ w'.cell? ⟨gb207, 0, none⟩ = some (.int .i64 a0_0) ∧ w'.cell? ⟨gb207, 1, none⟩ = some (.int .i64 a0_1) ∧ w'.cell? ⟨gb207, 2, none⟩ = some (.int .i64 a0_2) ∧ w'.cell? ⟨gb207, 3, none⟩ = some (.int .i64 a0_3) ∧ w'.cell? ⟨gb207, 4, none⟩ = some (.string a0_4) ∧ w'.cell? ⟨gb207, 5, none⟩ = some (.string a0_5) ∧ w'.cell? ⟨gb207, 6, none⟩ = some (.slice A0_6 l0_6.length c0_6)) (ds := []) (tf 0 5) (by kernel_rfl) rfl rfl ⟨bc_ BK228 0, bc_ BK228 1, bc_ BK228 2, bc_ BK228 3, bc_ BK228 4, bc_ BK228 5, bc_ BK228 6, bc_ BK207 0, bc_ BK207 1, bc_ BK207 2, bc_ BK207 3, bc_ BK207 4, bc_ BK207 5, bc_ BK207 6⟩ (fun hHeld => ?_)
    generalize w46.drew = w47 at HO217 HO227 BK207 BK228 HB hHeld ⊢
    refine take_ (i := 0) (N := some 22) (v := ?_) (a' := ?_) (tf 1 4) rfl rfl (by kernel_rfl) (fun _ _ _ h => h) (Or.inl ⟨by rfl, ?_⟩) hHeld ?_ ?_
    rotate_left
    ·rintro w' ⟨s0, s1, s2, s3, s4, s5, s6, s7, s8, s9, s10, s11, s12, s13⟩
     go_simp
     with_reducible rfl
    rotate_left
    ·simp only [Act.put, List.setIfInBounds_toArray, List.set_cons_zero, List.set_cons_succ, i64_w, i32_w]
     rfl
    refine take_ (i := 1) (N := some 23) (v := ?_) (a' := ?_) (tf 2 3) rfl rfl (by kernel_rfl) (fun _ _ _ h => h) (Or.inl ⟨by rfl, ?_⟩) hHeld ?_ ?_
    rotate_left
    ·rintro w' ⟨s0, s1, s2, s3, s4, s5, s6, s7, s8, s9, s10, s11, s12, s13⟩
     go_simp
     with_reducible rfl
    rotate_left
    ·simp only [Act.put, List.setIfInBounds_toArray, List.set_cons_zero, List.set_cons_succ, i64_w, i32_w]
     rfl
    refine one_ (i := 2) (N := some 24) (tf 3 2) rfl rfl (by kernel_rfl) (by decide) (fun K hK => ?_)
    refine gs_ Tryd.func9 #[.agg #[.int .i64 a0_0, .int .i64 a0_1, .int .i64 a0_2, .int .i64 a0_3, .string a0_4, .string a0_5, .slice A0_6 l0_6.length c0_6]] ?_
    with_reducible refine (laws_toExp.calls k a0_0 a0_1 a0_2 a0_3 a0_4 a0_5 _ _ l0_6 t230 t231 t232 t233 t234 t235 t236 _ ?side1 ?side2 A12.out).mono ?_
    (case side1 => exact ck_ (Kd.C_below HR0_6.out HB.out))
    (case side2 => exact HC0_6.out)
    rintro e w48 ⟨v237, rfl, ho0, hb⟩
    refine ⟨_, rfl, ?_⟩
    have HO238 := Aside0.mk (Kd.R_lower (Kd.R_newB (Kd.R_new' (Kd.R_new' ho0 (Kd.R_lt (rk_ HO217.out))) (Kd.R_lt (rk_ HO227.out))) (g := gb228) (o := .cells #[.int .i64 t219, .int .i64 t220, .int .i64 t221, .int .i64 t222, .string t223, .string t224, .slice Ao45 t225.length co45] 32 (0, 0)) (bkx_ BK228.out)) (below_size bb_))
    replace HO217 := Aside0.mk (Kd.R_elder' (rk_ HO217.out) (Kd.R_base ho0) hb)
    replace HO227 := Aside0.mk (Kd.R_elder' (rk_ HO227.out) (Kd.R_base ho0) hb)
    replace BK207 := bkb_ BK207 hb
    replace BK228 := bkb_ BK228 hb
    replace HB := bs_ hb
    (try clear hb)
    (try clear hb2)
    (try clear hk)
    (try clear hi)
    (try clear ho0)
    obtain ⟨Ao49, co49, eo49⟩ := Kd.R_slice HO238.out
    (first | subst eo49 | (injection eo49 with f1_ f2_ f3_; have f4_ := f1_.symm; have f5_ := f3_.symm; clear f1_ f2_ f3_; subst f4_; subst f5_))
    refine hK.out _ _ ⟨bc_ BK228 0, bc_ BK228 1, bc_ BK228 2, bc_ BK228 3, bc_ BK228 4, bc_ BK228 5, bc_ BK228 6, bc_ BK207 0, bc_ BK207 1, bc_ BK207 2, bc_ BK207 3, bc_ BK207 4, bc_ BK207 5, bc_ BK207 6⟩ (fun hHeld => ?_)
    clear hK K
    refine nm_ ?_
    refine one_ (i := 3) (N := some 25) (tf 4 1) rfl rfl (by kernel_rfl) (by decide) (fun K hK => ?_)
    refine gs_ Tryd.func11 #[.agg #[.int .i64 t219, .int .i64 t220, .int .i64 t221, .int .i64 t222, .string t223, .string t224, .slice Ao45 t225.length co45], .agg #[.int .i64 t230, .int .i64 t231, .int .i64 t232, .int .i64 t233, .string t234, .string t235, .slice Ao49 t236.length co49]] ?_
    with_reducible refine (laws_eqExp.calls k t219 t220 t221 t222 t223 t224 _ _ t225 t230 t231 t232 t233 t234 t235 _ _ t236 false _ ?side1 ?side2 ?side3 ?side4 A13.out).mono ?_
    (case side1 => exact ck_ (Kd.R_reads' HO227.out).2.2)
    (case side2 => exact (Kd.R_reads' HO227.out).2.1)
    (case side3 => exact ck_ (Kd.R_reads' HO238.out).2.2)
    (case side4 => exact (Kd.R_reads' HO238.out).2.1)
    rintro e w50 ⟨rfl, hb⟩
    refine ⟨_, rfl, ?_⟩
    replace HO217 := Aside0.mk (Kd.R_below (rk_ HO217.out) hb)
    replace HO227 := Aside0.mk (Kd.R_below (rk_ HO227.out) hb)
    replace HO238 := Aside0.mk (Kd.R_below (rk_ HO238.out) hb)
    replace BK207 := bkb_ BK207 hb
    replace BK228 := bkb_ BK228 hb
    replace HB := bs_ hb
    (try clear hb)
    (try clear hb2)
    (try clear hk)
    (try clear hi)
    refine hK.out _ _ ⟨bc_ BK228 0, bc_ BK228 1, bc_ BK228 2, bc_ BK228 3, bc_ BK228 4, bc_ BK228 5, bc_ BK228 6, bc_ BK207 0, bc_ BK207 1, bc_ BK207 2, bc_ BK207 3, bc_ BK207 4, bc_ BK207 5, bc_ BK207 6⟩ (fun hHeld => ?_)
    clear hK K
    refine nm_ ?_
    refine pure_ (i := 4) (N := some 26) (v := ?_) (a' := ?_) (tf 5 0) rfl rfl (by kernel_rfl) (fun _ _ _ h => h) (Or.inl ⟨by rfl, ?_⟩) ?_ ?_
    rotate_left
    ·intro w'
     go_simp
     with_reducible rfl
    rotate_left
    ·simp only [Act.put, List.setIfInBounds_toArray, List.set_cons_zero, List.set_cons_succ, i64_w, i32_w]
     rfl
    refine done_ (by kernel_rfl) ?_
    try go_wp2
    go_ret
    exact ⟨er_, bb_⟩
  ·rw [if_neg c11] at H
   have c11b0 : (t229.toList == t218.toList) = false := beq_eq_false_iff_ne.mpr c11
   have c11b1 : (t229.toList != t218.toList) = true := bne_iff_ne.mpr c11
   obtain rfl := Option.some.inj H
   go_enter Tryd.func3, Tryd.ntmps3
   go_wp2_with (first | ((with_reducible refine gate_dst (N := 1) rfl ?_); refine bx_ 1 #[.int .i64 a0_0, .int .i64 a0_1, .int .i64 a0_2, .int .i64 a0_3, .string a0_4, .string a0_5, .slice A0_6 l0_6.length c0_6] 26 ?_; intro gb207 hg w51 hbox hb; have BK207 := Aside0.mk (hbox); have GW207 := gw_ hg; have GE207 := gw_ hg; replace HB := bs_ hb; clear hb hbox hg; obtain ⟨hcz52_0, hcz52_1, hcz52_2, hcz52_3, hcz52_4, hcz52_5, hcz52_6, hfz52_0, hfz52_1, hfz52_2, hfz52_3, hfz52_4, hfz52_5, hfz52_6⟩ := b7_ BK207) | ((with_reducible refine gate_callee (f := 7) rfl ?_); refine gsL_ (some 9) Tryd.func7 #[.agg #[.int .i64 a0_0, .int .i64 a0_1, .int .i64 a0_2, .int .i64 a0_3, .string a0_4, .string a0_5, .slice A0_6 l0_6.length c0_6], .int .i64 1048576] ?_; (with_reducible refine (laws_szExp.calls k a0_0 a0_1 a0_2 a0_3 a0_4 a0_5 _ _ l0_6 1048576 t208 _ ?side1 ?side2 A2.out).mono ?_); (case side1 => exact ck_ (Kd.C_below HR0_6.out HB.out)); (case side2 => exact HC0_6.out); rintro e w53 ⟨rfl, hb⟩; refine ⟨_, rfl, ?_⟩; replace BK207 := bkb_ BK207 hb; replace HB := bs_ hb; (try clear hb); (try clear hb2); (try clear hk); (try clear hi); obtain ⟨hcz54_0, hcz54_1, hcz54_2, hcz54_3, hcz54_4, hcz54_5, hcz54_6, hfz54_0, hfz54_1, hfz54_2, hfz54_3, hfz54_4, hfz54_5, hfz54_6⟩ := b7_ BK207) | ((with_reducible refine gate_callee (f := 9) rfl ?_); refine gsL_ (some 13) Tryd.func9 #[.agg #[.int .i64 a0_0, .int .i64 a0_1, .int .i64 a0_2, .int .i64 a0_3, .string a0_4, .string a0_5, .slice A0_6 l0_6.length c0_6]] ?_; (with_reducible refine (laws_toExp.calls k a0_0 a0_1 a0_2 a0_3 a0_4 a0_5 _ _ l0_6 t209 t210 t211 t212 t213 t214 t215 _ ?side1 ?side2 A7.out).mono ?_); (case side1 => exact ck_ (Kd.C_below HR0_6.out HB.out)); (case side2 => exact HC0_6.out); rintro e w55 ⟨v216, rfl, ho0, hb⟩; refine ⟨_, rfl, ?_⟩; have HO217 := Aside0.mk (Kd.R_lower ho0 (below_size bb_)); replace BK207 := bkb_ BK207 hb; replace HB := bs_ hb; (try clear hb); (try clear hb2); (try clear hk); (try clear hi); (try clear ho0); obtain ⟨Ao56, co56, eo56⟩ := Kd.R_slice HO217.out; subst eo56) | ((with_reducible refine gate_callee (f := 8) rfl ?_); refine gsL_ (some 14) Tryd.func8 #[.agg #[.int .i64 t209, .int .i64 t210, .int .i64 t211, .int .i64 t212, .string t213, .string t214, .slice Ao56 t215.length co56]] ?_; (with_reducible refine (spec_ExpText.calls k t209 t210 t211 t212 t213 t214 _ _ t215 t218 _ ?side1 ?side2 A8.out).mono ?_); (case side1 => exact ck_ (Kd.R_reads' HO217.out).2.2); (case side2 => exact (Kd.R_reads' HO217.out).2.1); rintro e w57 ⟨rfl, hb⟩; refine ⟨_, rfl, ?_⟩; replace HO217 := Aside0.mk (Kd.R_below (rk_ HO217.out) hb); replace BK207 := bkb_ BK207 hb; replace HB := bs_ hb; (try clear hb); (try clear hb2); (try clear hk); (try clear hi); obtain ⟨hcz58_0, hcz58_1, hcz58_2, hcz58_3, hcz58_4, hcz58_5, hcz58_6, hfz58_0, hfz58_1, hfz58_2, hfz58_3, hfz58_4, hfz58_5, hfz58_6⟩ := b7_ BK207) | ((with_reducible refine gate_callee (f := 9) rfl ?_); refine gsL_ (some 16) Tryd.func9 #[.agg #[.int .i64 a0_0, .int .i64 a0_1, .int .i64 a0_2, .int .i64 a0_3, .string a0_4, .string a0_5, .slice A0_6 l0_6.length c0_6]] ?_; (with_reducible refine (laws_toExp.calls k a0_0 a0_1 a0_2 a0_3 a0_4 a0_5 _ _ l0_6 t219 t220 t221 t222 t223 t224 t225 _ ?side1 ?side2 A9.out).mono ?_); (case side1 => exact ck_ (Kd.C_below HR0_6.out HB.out)); (case side2 => exact HC0_6.out); rintro e w59 ⟨v226, rfl, ho0, hb⟩; refine ⟨_, rfl, ?_⟩; have HO227 := Aside0.mk (Kd.R_lower (Kd.R_new' ho0 (Kd.R_lt (rk_ HO217.out))) (below_size bb_)); replace HO217 := Aside0.mk (Kd.R_elder' (rk_ HO217.out) (Kd.R_base ho0) hb); replace BK207 := bkb_ BK207 hb; replace HB := bs_ hb; (try clear hb); (try clear hb2); (try clear hk); (try clear hi); (try clear ho0)) | ((with_reducible refine gate_dst (N := 5) rfl ?_); refine bx_ 5 #[.int .i64 0, .int .i64 0, .int .i64 0, .int .i64 0, .string (⟨#[]⟩ : ByteArray), .string (⟨#[]⟩ : ByteArray), .slice none 0 0] 32 ?_; intro gb228 hg w60 hbox hb; have BK228 := Aside0.mk (hbox); have GW228 := gw_ hg; have GE228 := gw_ hg; have NB207_228 := nl_ hg BK207; have NB228_207 := ng_ hg BK207; replace HO217 := Aside0.mk (Kd.R_below (Kd.R_elderB (rk_ HO217.out) gb228 (Nat.le_of_eq hg.symm)) hb); replace HO227 := Aside0.mk (Kd.R_below (Kd.R_elderB (rk_ HO227.out) gb228 (Nat.le_of_eq hg.symm)) hb); replace BK207 := bkb_ BK207 hb; replace HB := bs_ hb; clear hb hbox hg; have hnb61 := NB228_207.out; have hnc61 := NB207_228.out; obtain ⟨hcz62_0, hcz62_1, hcz62_2, hcz62_3, hcz62_4, hcz62_5, hcz62_6, hfz62_0, hfz62_1, hfz62_2, hfz62_3, hfz62_4, hfz62_5, hfz62_6⟩ := b7_ BK228; obtain ⟨Ao63, co63, eo63⟩ := Kd.R_slice HO227.out; subst eo63) | ((with_reducible refine gate_callee (f := 10) rfl ?_); refine gsL_ (some 18) Tryd.func10 #[.agg #[.int .i64 t219, .int .i64 t220, .int .i64 t221, .int .i64 t222, .string t223, .string t224, .slice Ao63 t225.length co63]] ?_; (with_reducible refine (impl_ExpText.calls k t219 t220 t221 t222 t223 t224 _ _ t225 t229 _ ?side1 ?side2 A10.out).mono ?_); (case side1 => refine (Kd.R_reads' (e := 32) (base := w.heap.size) (ok := fun k_ => ((True ∧ some k_ ≠ (.slice Ao56 t215.length co56 : Value).ownBlock) ∧ k_ ≠ gb228)) (n := t225.length) (c := co63) ?_).2.2; exact (rk_ (Kd.R_mono (Kd.R_far (p := ⟨gb228, 6, none⟩) (Kd.R_far (p := ⟨gb228, 5, none⟩) (Kd.R_far (p := ⟨gb228, 4, none⟩) (Kd.R_far (p := ⟨gb228, 3, none⟩) (Kd.R_far (p := ⟨gb228, 2, none⟩) (Kd.R_far (p := ⟨gb228, 1, none⟩) (Kd.R_far (p := ⟨gb228, 0, none⟩) (Kd.R_mono HO227.out (fun k_ hk => (⟨hk, hk.2⟩ : _ ∧ k_ ≠ gb228))) (fun _ hk => hk.2) (.int .i64 t219)) (fun _ hk => hk.2) (.int .i64 t220)) (fun _ hk => hk.2) (.int .i64 t221)) (fun _ hk => hk.2) (.int .i64 t222)) (fun _ hk => hk.2) (.string t223)) (fun _ hk => hk.2) (.string t224)) (fun _ hk => hk.2) (.slice Ao63 t225.length co63)) (fun _ h_ => h_.1)))); (case side2 => exact (Kd.R_reads' HO227.out).2.1); rintro e w64 ⟨rfl, hb⟩; refine ⟨_, rfl, ?_⟩; replace HO217 := Aside0.mk (Kd.R_below (rk_ (Kd.R_mono (Kd.R_far (p := ⟨gb228, 6, none⟩) (Kd.R_far (p := ⟨gb228, 5, none⟩) (Kd.R_far (p := ⟨gb228, 4, none⟩) (Kd.R_far (p := ⟨gb228, 3, none⟩) (Kd.R_far (p := ⟨gb228, 2, none⟩) (Kd.R_far (p := ⟨gb228, 1, none⟩) (Kd.R_far (p := ⟨gb228, 0, none⟩) (Kd.R_mono HO217.out (fun k_ hk => (⟨hk, hk.2⟩ : _ ∧ k_ ≠ gb228))) (fun _ hk => hk.2) (.int .i64 t219)) (fun _ hk => hk.2) (.int .i64 t220)) (fun _ hk => hk.2) (.int .i64 t221)) (fun _ hk => hk.2) (.int .i64 t222)) (fun _ hk => hk.2) (.string t223)) (fun _ hk => hk.2) (.string t224)) (fun _ hk => hk.2) (.slice Ao63 t225.length co63)) (fun _ h_ => h_.1))) hb); replace HO227 := Aside0.mk (Kd.R_below (rk_ (Kd.R_mono (Kd.R_far (p := ⟨gb228, 6, none⟩) (Kd.R_far (p := ⟨gb228, 5, none⟩) (Kd.R_far (p := ⟨gb228, 4, none⟩) (Kd.R_far (p := ⟨gb228, 3, none⟩) (Kd.R_far (p := ⟨gb228, 2, none⟩) (Kd.R_far (p := ⟨gb228, 1, none⟩) (Kd.R_far (p := ⟨gb228, 0, none⟩) (Kd.R_mono HO227.out (fun k_ hk => (⟨hk, hk.2⟩ : _ ∧ k_ ≠ gb228))) (fun _ hk => hk.2) (.int .i64 t219)) (fun _ hk => hk.2) (.int .i64 t220)) (fun _ hk => hk.2) (.int .i64 t221)) (fun _ hk => hk.2) (.int .i64 t222)) (fun _ hk => hk.2) (.string t223)) (fun _ hk => hk.2) (.string t224)) (fun _ hk => hk.2) (.slice Ao63 t225.length co63)) (fun _ h_ => h_.1))) hb); replace BK207 := Aside0.mk (blk_below (g := gb207) (o := .cells #[.int .i64 a0_0, .int .i64 a0_1, .int .i64 a0_2, .int .i64 a0_3, .string a0_4, .string a0_5, .slice A0_6 l0_6.length c0_6] 26 (0, 0)) (bf7_ NB207_228 (bkx_ BK207.out)) hb); replace BK228 := Aside0.mk (blk_below (g := gb228) (o := .cells #[.int .i64 t219, .int .i64 t220, .int .i64 t221, .int .i64 t222, .string t223, .string t224, .slice Ao63 t225.length co63] 32 (0, 0)) (bp7_ (bkx_ BK228.out)) hb); replace HB := bs_ hb; (try clear hb); (try clear hb2); (try clear hk); (try clear hi)))
   go_ret
   exact ⟨er_, bb_⟩

end Go.Proofs.YthgdmdabdlgliaaDoor.PFnExactExpText
