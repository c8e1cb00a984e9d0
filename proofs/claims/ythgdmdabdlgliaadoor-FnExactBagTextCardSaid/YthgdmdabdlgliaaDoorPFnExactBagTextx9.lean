-- WRITTEN BY xprint.py, a program of this session over the kit's printer: by nobody's hand
-- PRESSED
import Derived.Test.YthgdmdabdlgliaaDoorPress
import Derived.Test.YthgdmdabdlgliaaDoorPFnExactBagTextx0
import Derived.Test.YthgdmdabdlgliaaDoorPFnExactBagTextx1
import Derived.Test.YthgdmdabdlgliaaDoorPFnExactBagTextx4
import Derived.Test.YthgdmdabdlgliaaDoorPFnExactBagTextx5
import Derived.Test.YthgdmdabdlgliaaDoorPFnExactBagTextx8
namespace Go.Proofs.YthgdmdabdlgliaaDoor.PFnExactBagText
open Go.RowKit Go.Proofs.YthgdmdabdlgliaaDoorW.PrintWords Go.Proofs.YthgdmdabdlgliaaDoorW.PrintLast Go.Proofs.YthgdmdabdlgliaaDoorW.PrintMore
set_option linter.unusedVariables false
set_option linter.unusedSimpArgs false

/-! ### laws_eqCountedS: function 80 -/
def laws_eqCountedS.l0 : Nat → List (S109) → List (S109) → Int → Option (Bool)
 | 0, _, _, _ => none
 | k + 1, x0, x1, x5 => if x5 < (x0.length : Int) then (if 0 ≤ x5 then (if x5 < (x1.length : Int) then ((laws_eqCounted.f k ((rd_T109 x0 x5).f0) ((rd_T109 x0 x5).f1) ((rd_T109 x1 x5).f0) ((rd_T109 x1 x5).f1)).bind fun t212 => (if t212 = true then (laws_eqCountedS.l0 k x0 x1 (wrap64 (x5 + 1))) else (some false))) else (none)) else (none)) else (some true)
def laws_eqCountedS.f (k : Nat) (l0 : List (S109)) (l1 : List (S109)) : Option (Bool) := if (l0.length : Int) = (l1.length : Int) then (laws_eqCountedS.l0 k l0 l1 0) else (some false)
def laws_eqCountedS.T6 : Bool × List (List Nat × List Nat) := (true, [([], []), ([], []), ([0, 1], [0, 1]), ([2], [2]), ([], []), ([], []), ([4, 5], [4, 5]), ([6], [6]), ([3, 7], [3, 7]), ([8], [8])])
def laws_eqCountedS.B6 : List Nat := [0, 0, 3, 7, 0, 0, 48, 112, 255, 511]
theorem laws_eqCountedS.tab6 : rtab .any (opsOf Tryd.f80 6) = laws_eqCountedS.T6 := by kernel_rfl
theorem laws_eqCountedS.bits6 : waitsOk laws_eqCountedS.T6.2 laws_eqCountedS.B6 = true := by kernel_rfl
set_option maxHeartbeats 8000000 in
set_option maxRecDepth 100000 in
theorem laws_eqCountedS.calls (k : Nat) (A0 : Option Addr) (c0 : Nat) (l0 : List (S109)) (A1 : Option Addr) (c1 : Nat) (l1 : List (S109)) (r : Bool) (w : World) (hr0 : Kd.C k109 w A0 l0.length l0) (hc0 : l0.length ≤ c0) (hr1 : Kd.C k109 w A1 l1.length l1) (hc1 : l1.length ≤ c1) (h : laws_eqCountedS.f k l0 l1 = some r) :
  Calls Tryd.prog 80 #[.slice A0 l0.length c0, .slice A1 l1.length c1] w fun e w' => e = .returned (.bool r) ∧ Below w.heap.size w w' := by
 have hu109 := Tryd.underlying109
 have HR0 := Aside0.mk hr0
 have HC0 := Aside0.mk hc0
 clear hr0 hc0
 have HR1 := Aside0.mk hr1
 have HC1 := Aside0.mk hc1
 clear hr1 hc1
 have HB := Aside0.mk (Below.refl w.heap.size w)
 have H : (if (l0.length : Int) = (l1.length : Int) then (laws_eqCountedS.l0 k l0 l1 0) else (some false)) = some r := h
 clear h
 by_cases c3 : (l0.length : Int) = (l1.length : Int)
 ·rw [if_pos c3] at H
  have c3b0 : ((l0.length : Int) == (l1.length : Int)) = true := beq_iff_eq.mpr c3
  have c3b1 : ((l0.length : Int) != (l1.length : Int)) = false := bne_eq_false_iff_eq.mpr c3
  have c3b2 : (l0.length == l1.length) = true := by first | simpa using c3 | (simp at c3 ⊢; omega)
  clear c3
  have H' := Aside0.mk H
  clear H
  go_enter Tryd.func80, Tryd.ntmps80
  go_wp2
  go_loopg [5] k (fun kq v5 w' => ∃ (x5_1 : Int), v5 = .int .i64 x5_1 ∧ Aside0 (laws_eqCountedS.l0 kq l0 l1 x5_1 = some r) ∧ Aside0 (kq ≤ k) ∧ Aside0 (Below w.heap.size w w'))
  case atStart => exact ⟨(0), rs_, H', ⟨Nat.le_refl _⟩, ⟨bb_⟩⟩
  case round =>
   clear H'
   try clear c1
   try clear p2
   try clear c3
   try clear c3b0
   try clear c3b1
   try clear c3b2
   obtain ⟨x5_1, rfl, HA, HK1, HB⟩ := hrel
   cases gk with
   | zero => exact absurd HA.out (by simp [laws_eqCountedS.l0])
   | succ k1 =>
    have H := HA.out
    clear HA
    simp only [laws_eqCountedS.l0] at H
    by_cases c4 : x5_1 < (l0.length : Int)
    ·rw [if_pos c4] at H
     have c4b0 : decide (x5_1 < (l0.length : Int)) = true := decide_eq_true c4
     clear c4
     by_cases c5 : 0 ≤ x5_1
     ·rw [if_pos c5] at H
      have c5b0 : decide (0 ≤ x5_1) = true := decide_eq_true c5
      clear c5
      by_cases c6 : x5_1 < (l1.length : Int)
      ·rw [if_pos c6] at H
       have c6b0 : decide (x5_1 < (l1.length : Int)) = true := decide_eq_true c6
       clear c6
       replace H := Option.bind_eq_some_iff.mp H
       obtain ⟨t212, A70, H⟩ := H
       replace H : (if t212 = true then (laws_eqCountedS.l0 k1 l0 l1 (wrap64 (x5_1 + 1))) else (some false)) = some r := H
       have A7 := Aside0.mk A70
       clear A70
       by_cases c8 : t212 = true
       ·subst c8
        have H1 : (laws_eqCountedS.l0 k1 l0 l1 (wrap64 (x5_1 + 1))) = some r := by rw [if_pos rfl] at H; exact H
        clear H
        have H := H1
        clear H1
        have H' := Aside0.mk H
        clear H
        try go_wp2
        replace HB := Aside0.mk (below_drew1 HB.out)
        have p210 : 0 ≤ (x5_1 : Int) := of_decide_eq_true (by first | (with_reducible assumption) | assumption)
        have q210 : x5_1 < (l0.length : Int) := of_decide_eq_true (by first | (with_reducible assumption) | assumption)
        obtain ⟨ad210, A210_0, c210_0, e210, hx210_0, hx210_1, hl210_0, hi210_0⟩ := at_T109 HR0.out x5_1 p210 q210
        have hw210_1 := hx210_1
        have hw210_0 := hx210_0
        cases e210
        replace hx210_0 := hb_ HB hx210_0
        replace hx210_1 := hb_ HB hx210_1
        have HR210_0 := Aside0.mk hi210_0
        have HC210_0 := Aside0.mk hl210_0
        clear hi210_0 hl210_0
        replace p210 := eq_true p210
        replace q210 := eq_true q210
        have p211 : 0 ≤ (x5_1 : Int) := of_decide_eq_true (by first | (with_reducible assumption) | assumption)
        have q211 : x5_1 < (l1.length : Int) := of_decide_eq_true (by first | (with_reducible assumption) | assumption)
        obtain ⟨ad211, A211_0, c211_0, e211, hx211_0, hx211_1, hl211_0, hi211_0⟩ := at_T109 HR1.out x5_1 p211 q211
        have hw211_1 := hx211_1
        have hw211_0 := hx211_0
        cases e211
        replace hx211_0 := hb_ HB hx211_0
        replace hx211_1 := hb_ HB hx211_1
        have HR211_0 := Aside0.mk hi211_0
        have HC211_0 := Aside0.mk hl211_0
        clear hi211_0 hl211_0
        replace p211 := eq_true p211
        replace q211 := eq_true q211
        refine start_ (n := 10) (S := fun w' => w'.cell? (ad210.add ((x5_1).toNat * 2)) = some (.slice A210_0 ((rd_T109 l0 x5_1).f0).length c210_0) ∧ w'.cell? ⟨(ad210.add ((x5_1).toNat * 2)).block, (ad210.add ((x5_1).toNat * 2)).off + 1, none⟩ = some (.int .i64 ((rd_T109 l0 x5_1).f1)) ∧ w'.cell? (ad211.add ((x5_1).toNat * 2)) = some (.slice A211_0 ((rd_T109 l1 x5_1).f0).length c211_0) ∧ w'.cell? ⟨(ad211.add ((x5_1).toNat * 2)).block, (ad211.add ((x5_1).toNat * 2)).off + 1, none⟩ = some (.int .i64 ((rd_T109 l1 x5_1).f1))) (ds := []) (tf 0 10) (by kernel_rfl) rfl rfl ⟨(hb_ HB hw210_0), (hb_ HB hw210_1), (hb_ HB hw211_0), (hb_ HB hw211_1)⟩ (fun hHeld => ?_); refine with_tabW laws_eqCountedS.tab6 laws_eqCountedS.bits6 (fun HT_ HW_ => ?_)
        generalize wr.drew = w9 at HB HR210_0 HR211_0 hx210_0 hx210_1 hx211_0 hx211_1 hHeld ⊢
        iterate 3 (refine pl_ ?_)
        refine plx_ 4 #[true, true, true, false, true, false, false, false, false, false] ?_
        refine plx_ 5 #[true, true, true, false, true, true, false, false, false, false] ?_
        refine plx_ 6 #[true, true, true, false, true, true, true, false, false, false] ?_
        refine tlx_ 3 (tf 7 3) ?_
        refine tl_ ?_
        refine one_ (i := 8) (N := some 25) (tf 9 1) rfl rfl (one_of HT_.out (by kernel_rfl)) (by decide) (fun K hK => ?_)
        refine gs_ Tryd.func107 #[.agg #[.slice A210_0 ((rd_T109 l0 x5_1).f0).length c210_0, .int .i64 ((rd_T109 l0 x5_1).f1)], .agg #[.slice A211_0 ((rd_T109 l1 x5_1).f0).length c211_0, .int .i64 ((rd_T109 l1 x5_1).f1)]] ?_
        with_reducible refine (laws_eqCounted.calls k1 _ _ ((rd_T109 l0 x5_1).f0) ((rd_T109 l0 x5_1).f1) _ _ ((rd_T109 l1 x5_1).f0) ((rd_T109 l1 x5_1).f1) true _ ?side1 ?side2 ?side3 ?side4 A7.out).mono ?_
        (case side1 => exact ck_ (Kd.C_below HR210_0.out HB.out))
        (case side2 => exact HC210_0.out)
        (case side3 => exact ck_ (Kd.C_below HR211_0.out HB.out))
        (case side4 => exact HC211_0.out)
        rintro e w10 ⟨rfl, hb⟩
        refine ⟨_, rfl, ?_⟩
        replace HB := bs_ hb
        (try clear hb)
        (try clear hb2)
        (try clear hk)
        (try clear hi)
        refine hK.out _ _ ⟨(have h_ := hb_ HB hw210_0; h_), (have h_ := hb_ HB hw210_1; h_), (have h_ := hb_ HB hw211_0; h_), (have h_ := hb_ HB hw211_1; h_)⟩ (fun hHeld => ?_)
        clear hK K
        refine nm_ ?_
        refine plx_ 9 (tf 10 0) ?_
        refine done_ (done_of HT_.out (by kernel_rfl)) ?_
        try go_wp2
        go_roundg k1
        case measure => have := HK1.out; omega
        case rel => exact ⟨(wrap64 (x5_1 + 1)), rs_, H', ⟨by have := HK1.out; omega⟩, ⟨bb_⟩⟩
       ·replace c8 := Bool.eq_false_iff.mpr c8
        subst c8
        have H1 : (some false) = some r := by rw [if_neg (show ¬ (false = true) by decide)] at H; exact H
        clear H
        have H := H1
        clear H1
        obtain rfl := Option.some.inj H
        try go_wp2
        replace HB := Aside0.mk (below_drew1 HB.out)
        have p210 : 0 ≤ (x5_1 : Int) := of_decide_eq_true (by first | (with_reducible assumption) | assumption)
        have q210 : x5_1 < (l0.length : Int) := of_decide_eq_true (by first | (with_reducible assumption) | assumption)
        obtain ⟨ad210, A210_0, c210_0, e210, hx210_0, hx210_1, hl210_0, hi210_0⟩ := at_T109 HR0.out x5_1 p210 q210
        have hw210_1 := hx210_1
        have hw210_0 := hx210_0
        cases e210
        replace hx210_0 := hb_ HB hx210_0
        replace hx210_1 := hb_ HB hx210_1
        have HR210_0 := Aside0.mk hi210_0
        have HC210_0 := Aside0.mk hl210_0
        clear hi210_0 hl210_0
        replace p210 := eq_true p210
        replace q210 := eq_true q210
        have p211 : 0 ≤ (x5_1 : Int) := of_decide_eq_true (by first | (with_reducible assumption) | assumption)
        have q211 : x5_1 < (l1.length : Int) := of_decide_eq_true (by first | (with_reducible assumption) | assumption)
        obtain ⟨ad211, A211_0, c211_0, e211, hx211_0, hx211_1, hl211_0, hi211_0⟩ := at_T109 HR1.out x5_1 p211 q211
        have hw211_1 := hx211_1
        have hw211_0 := hx211_0
        cases e211
        replace hx211_0 := hb_ HB hx211_0
        replace hx211_1 := hb_ HB hx211_1
        have HR211_0 := Aside0.mk hi211_0
        have HC211_0 := Aside0.mk hl211_0
        clear hi211_0 hl211_0
        replace p211 := eq_true p211
        replace q211 := eq_true q211
        refine start_ (n := 10) (S := fun w' => w'.cell? (ad210.add ((x5_1).toNat * 2)) = some (.slice A210_0 ((rd_T109 l0 x5_1).f0).length c210_0) ∧ w'.cell? ⟨(ad210.add ((x5_1).toNat * 2)).block, (ad210.add ((x5_1).toNat * 2)).off + 1, none⟩ = some (.int .i64 ((rd_T109 l0 x5_1).f1)) ∧ w'.cell? (ad211.add ((x5_1).toNat * 2)) = some (.slice A211_0 ((rd_T109 l1 x5_1).f0).length c211_0) ∧ w'.cell? ⟨(ad211.add ((x5_1).toNat * 2)).block, (ad211.add ((x5_1).toNat * 2)).off + 1, none⟩ = some (.int .i64 ((rd_T109 l1 x5_1).f1))) (ds := []) (tf 0 10) (by kernel_rfl) rfl rfl ⟨(hb_ HB hw210_0), (hb_ HB hw210_1), (hb_ HB hw211_0), (hb_ HB hw211_1)⟩ (fun hHeld => ?_); refine with_tabW laws_eqCountedS.tab6 laws_eqCountedS.bits6 (fun HT_ HW_ => ?_)
        generalize wr.drew = w11 at HB HR210_0 HR211_0 hx210_0 hx210_1 hx211_0 hx211_1 hHeld ⊢
        iterate 3 (refine pl_ ?_)
        refine plx_ 4 #[true, true, true, false, true, false, false, false, false, false] ?_
        refine plx_ 5 #[true, true, true, false, true, true, false, false, false, false] ?_
        refine plx_ 6 #[true, true, true, false, true, true, true, false, false, false] ?_
        refine tlx_ 3 (tf 7 3) ?_
        refine tl_ ?_
        refine one_ (i := 8) (N := some 25) (tf 9 1) rfl rfl (one_of HT_.out (by kernel_rfl)) (by decide) (fun K hK => ?_)
        refine gs_ Tryd.func107 #[.agg #[.slice A210_0 ((rd_T109 l0 x5_1).f0).length c210_0, .int .i64 ((rd_T109 l0 x5_1).f1)], .agg #[.slice A211_0 ((rd_T109 l1 x5_1).f0).length c211_0, .int .i64 ((rd_T109 l1 x5_1).f1)]] ?_
        with_reducible refine (laws_eqCounted.calls k1 _ _ ((rd_T109 l0 x5_1).f0) ((rd_T109 l0 x5_1).f1) _ _ ((rd_T109 l1 x5_1).f0) ((rd_T109 l1 x5_1).f1) false _ ?side1 ?side2 ?side3 ?side4 A7.out).mono ?_
        (case side1 => exact ck_ (Kd.C_below HR210_0.out HB.out))
        (case side2 => exact HC210_0.out)
        (case side3 => exact ck_ (Kd.C_below HR211_0.out HB.out))
        (case side4 => exact HC211_0.out)
        rintro e w12 ⟨rfl, hb⟩
        refine ⟨_, rfl, ?_⟩
        replace HB := bs_ hb
        (try clear hb)
        (try clear hb2)
        (try clear hk)
        (try clear hi)
        refine hK.out _ _ ⟨(have h_ := hb_ HB hw210_0; h_), (have h_ := hb_ HB hw210_1; h_), (have h_ := hb_ HB hw211_0; h_), (have h_ := hb_ HB hw211_1; h_)⟩ (fun hHeld => ?_)
        clear hK K
        refine nm_ ?_
        refine plx_ 9 (tf 10 0) ?_
        refine done_ (done_of HT_.out (by kernel_rfl)) ?_
        try go_wp2
        go_ret
        exact ⟨er_, bb_⟩
      ·rw [if_neg c6] at H
       exact absurd H (by simp)
     ·rw [if_neg c5] at H
      exact absurd H (by simp)
    ·rw [if_neg c4] at H
     have c4b0 : decide (x5_1 < (l0.length : Int)) = false := decide_eq_false c4
     clear c4
     obtain rfl := Option.some.inj H
     go_wp2
     go_ret
     exact ⟨er_, bb_⟩
 ·rw [if_neg c3] at H
  have c3b0 : ((l0.length : Int) == (l1.length : Int)) = false := beq_eq_false_iff_ne.mpr c3
  have c3b1 : ((l0.length : Int) != (l1.length : Int)) = true := bne_iff_ne.mpr c3
  have c3b2 : (l0.length == l1.length) = false := by first | simpa using c3 | (simp at c3 ⊢; omega)
  obtain rfl := Option.some.inj H
  go_enter Tryd.func80, Tryd.ntmps80
  go_wp2
  go_ret
  exact ⟨er_, bb_⟩

/-! ### laws_eqBag: function 36 -/
def laws_eqBag.f (k : Nat) (a0_0 : Int) (l0_1 : List (S109)) (a1_0 : Int) (l1_1 : List (S109)) : Option (Bool) := if a0_0 = a1_0 then ((laws_eqCountedS.f k l0_1 l1_1).bind fun t215 => (if t215 = true then (some true) else (some false))) else (some false)
set_option maxHeartbeats 8000000 in
set_option maxRecDepth 100000 in
theorem laws_eqBag.calls (k : Nat) (a0_0 : Int) (A0_1 : Option Addr) (c0_1 : Nat) (l0_1 : List (S109)) (a1_0 : Int) (A1_1 : Option Addr) (c1_1 : Nat) (l1_1 : List (S109)) (r : Bool) (w : World) (hr0_1 : Kd.C k109 w A0_1 l0_1.length l0_1) (hc0_1 : l0_1.length ≤ c0_1) (hr1_1 : Kd.C k109 w A1_1 l1_1.length l1_1) (hc1_1 : l1_1.length ≤ c1_1) (h : laws_eqBag.f k a0_0 l0_1 a1_0 l1_1 = some r) :
  Calls Tryd.prog 36 #[.agg #[.int .i64 a0_0, .slice A0_1 l0_1.length c0_1], .agg #[.int .i64 a1_0, .slice A1_1 l1_1.length c1_1]] w fun e w' => e = .returned (.bool r) ∧ Below w.heap.size w w' := by
 have hu59 := Tryd.underlying59
 have HR0_1 := Aside0.mk hr0_1
 have HC0_1 := Aside0.mk hc0_1
 clear hr0_1 hc0_1
 have HR1_1 := Aside0.mk hr1_1
 have HC1_1 := Aside0.mk hc1_1
 clear hr1_1 hc1_1
 have HB := Aside0.mk (Below.refl w.heap.size w)
 have H : (if a0_0 = a1_0 then ((laws_eqCountedS.f k l0_1 l1_1).bind fun t215 => (if t215 = true then (some true) else (some false))) else (some false)) = some r := h
 clear h
 by_cases c3 : a0_0 = a1_0
 ·rw [if_pos c3] at H
  have c3b0 : (a0_0 == a1_0) = true := beq_iff_eq.mpr c3
  have c3b1 : (a0_0 != a1_0) = false := bne_eq_false_iff_eq.mpr c3
  clear c3
  replace H := Option.bind_eq_some_iff.mp H
  obtain ⟨t215, A40, H⟩ := H
  replace H : (if t215 = true then (some true) else (some false)) = some r := H
  have A4 := Aside0.mk A40
  clear A40
  by_cases c5 : t215 = true
  ·subst c5
   have H1 : (some true) = some r := by rw [if_pos rfl] at H; exact H
   clear H
   have H := H1
   clear H1
   obtain rfl := Option.some.inj H
   go_enter Tryd.func36, Tryd.ntmps36
   go_wp2_with (first | ((with_reducible refine gate_dst (N := 2) rfl ?_); refine bx_ 2 #[.int .i64 a0_0, .slice A0_1 l0_1.length c0_1] 59 ?_; intro gb213 hg w6 hbox hb; have BK213 := Aside0.mk (hbox); have GW213 := gw_ hg; have GE213 := gw_ hg; replace HB := bs_ hb; clear hb hbox hg) | ((with_reducible refine gate_dst (N := 3) rfl ?_); refine bx_ 3 #[.int .i64 a1_0, .slice A1_1 l1_1.length c1_1] 59 ?_; intro gb214 hg w7 hbox hb; have BK214 := Aside0.mk (hbox); have GW214 := gw_ hg; have GE214 := gw_ hg; have NB213_214 := nl_ hg BK213; have NB214_213 := ng_ hg BK213; replace BK213 := bkb_ BK213 hb; replace HB := bs_ hb; clear hb hbox hg; have hnb8 := NB213_214.out; have hnc8 := NB214_213.out; obtain ⟨hcz9_0, hcz9_1, hfz9_0, hfz9_1⟩ := b2_ BK213; obtain ⟨hcz10_0, hcz10_1, hfz10_0, hfz10_1⟩ := b2_ BK214) | ((with_reducible refine gate_callee (f := 80) rfl ?_); refine gsL_ (some 14) Tryd.func80 #[.slice A0_1 l0_1.length c0_1, .slice A1_1 l1_1.length c1_1] ?_; (with_reducible refine (laws_eqCountedS.calls k _ _ l0_1 _ _ l1_1 true _ ?side1 ?side2 ?side3 ?side4 A4.out).mono ?_); (case side1 => exact ck_ (Kd.C_below HR0_1.out HB.out)); (case side2 => exact HC0_1.out); (case side3 => exact ck_ (Kd.C_below HR1_1.out HB.out)); (case side4 => exact HC1_1.out); rintro e w11 ⟨rfl, hb⟩; refine ⟨_, rfl, ?_⟩; replace BK213 := bkb_ BK213 hb; replace BK214 := bkb_ BK214 hb; replace HB := bs_ hb; (try clear hb); (try clear hb2); (try clear hk); (try clear hi)))
   go_ret
   exact ⟨er_, bb_⟩
  ·replace c5 := Bool.eq_false_iff.mpr c5
   subst c5
   have H1 : (some false) = some r := by rw [if_neg (show ¬ (false = true) by decide)] at H; exact H
   clear H
   have H := H1
   clear H1
   obtain rfl := Option.some.inj H
   go_enter Tryd.func36, Tryd.ntmps36
   go_wp2_with (first | ((with_reducible refine gate_dst (N := 2) rfl ?_); refine bx_ 2 #[.int .i64 a0_0, .slice A0_1 l0_1.length c0_1] 59 ?_; intro gb213 hg w12 hbox hb; have BK213 := Aside0.mk (hbox); have GW213 := gw_ hg; have GE213 := gw_ hg; replace HB := bs_ hb; clear hb hbox hg) | ((with_reducible refine gate_dst (N := 3) rfl ?_); refine bx_ 3 #[.int .i64 a1_0, .slice A1_1 l1_1.length c1_1] 59 ?_; intro gb214 hg w13 hbox hb; have BK214 := Aside0.mk (hbox); have GW214 := gw_ hg; have GE214 := gw_ hg; have NB213_214 := nl_ hg BK213; have NB214_213 := ng_ hg BK213; replace BK213 := bkb_ BK213 hb; replace HB := bs_ hb; clear hb hbox hg; have hnb14 := NB213_214.out; have hnc14 := NB214_213.out; obtain ⟨hcz15_0, hcz15_1, hfz15_0, hfz15_1⟩ := b2_ BK213; obtain ⟨hcz16_0, hcz16_1, hfz16_0, hfz16_1⟩ := b2_ BK214) | ((with_reducible refine gate_callee (f := 80) rfl ?_); refine gsL_ (some 14) Tryd.func80 #[.slice A0_1 l0_1.length c0_1, .slice A1_1 l1_1.length c1_1] ?_; (with_reducible refine (laws_eqCountedS.calls k _ _ l0_1 _ _ l1_1 false _ ?side1 ?side2 ?side3 ?side4 A4.out).mono ?_); (case side1 => exact ck_ (Kd.C_below HR0_1.out HB.out)); (case side2 => exact HC0_1.out); (case side3 => exact ck_ (Kd.C_below HR1_1.out HB.out)); (case side4 => exact HC1_1.out); rintro e w17 ⟨rfl, hb⟩; refine ⟨_, rfl, ?_⟩; replace BK213 := bkb_ BK213 hb; replace BK214 := bkb_ BK214 hb; replace HB := bs_ hb; (try clear hb); (try clear hb2); (try clear hk); (try clear hi)))
   go_ret
   exact ⟨er_, bb_⟩
 ·rw [if_neg c3] at H
  have c3b0 : (a0_0 == a1_0) = false := beq_eq_false_iff_ne.mpr c3
  have c3b1 : (a0_0 != a1_0) = true := bne_iff_ne.mpr c3
  obtain rfl := Option.some.inj H
  go_enter Tryd.func36, Tryd.ntmps36
  go_wp2_with (first | ((with_reducible refine gate_dst (N := 2) rfl ?_); refine bx_ 2 #[.int .i64 a0_0, .slice A0_1 l0_1.length c0_1] 59 ?_; intro gb213 hg w18 hbox hb; have BK213 := Aside0.mk (hbox); have GW213 := gw_ hg; have GE213 := gw_ hg; replace HB := bs_ hb; clear hb hbox hg) | ((with_reducible refine gate_dst (N := 3) rfl ?_); refine bx_ 3 #[.int .i64 a1_0, .slice A1_1 l1_1.length c1_1] 59 ?_; intro gb214 hg w19 hbox hb; have BK214 := Aside0.mk (hbox); have GW214 := gw_ hg; have GE214 := gw_ hg; have NB213_214 := nl_ hg BK213; have NB214_213 := ng_ hg BK213; replace BK213 := bkb_ BK213 hb; replace HB := bs_ hb; clear hb hbox hg; have hnb20 := NB213_214.out; have hnc20 := NB214_213.out; obtain ⟨hcz21_0, hcz21_1, hfz21_0, hfz21_1⟩ := b2_ BK213; obtain ⟨hcz22_0, hcz22_1, hfz22_0, hfz22_1⟩ := b2_ BK214))
  go_ret
  exact ⟨er_, bb_⟩

/-! ### laws_FnExactBagText: function 5 -/
def laws_FnExactBagText.f (k : Nat) (a0_0 : Int) (l0_1 : List (S135)) : Option (Bool) := (laws_szBag.f k a0_0 l0_1 1048576).bind fun t217 => (if t217 < 0 then (some true) else ((laws_toBag.f k a0_0 l0_1).bind fun bt218 => ((spec_BagText.f k bt218.1 bt218.2).bind fun t222 => ((laws_toBag.f k a0_0 l0_1).bind fun bt223 => ((impl_BagText.f k bt223.1 bt223.2).bind fun t228 => (if t228.toList = t222.toList then ((laws_toBag.f k a0_0 l0_1).bind fun bt229 => ((laws_eqBag.f k bt223.1 bt223.2 bt229.1 bt229.2).bind fun t233 => (if t233 = true then (some true) else (some false)))) else (some false)))))))
set_option maxHeartbeats 8000000 in
set_option maxRecDepth 100000 in
theorem laws_FnExactBagText.calls (k : Nat) (a0_0 : Int) (A0_1 : Option Addr) (c0_1 : Nat) (l0_1 : List (S135)) (r : Bool) (w : World) (hr0_1 : Kd.C k135 w A0_1 l0_1.length l0_1) (hc0_1 : l0_1.length ≤ c0_1) (h : laws_FnExactBagText.f k a0_0 l0_1 = some r) (hM : MaxLenIn w := by first | assumption | exact MaxLenIn.drewN (by assumption) _ | exact MaxLenIn.later (by assumption) (by assumption) | exact MaxLenIn.drewN (MaxLenIn.later (by assumption) (by assumption)) _ | exact MaxLenIn.later (by assumption) ⟨by repeat (first | exact Aside0.out (by assumption) | apply below_alloc | apply pw_below_drewN | apply below_drew1 | refine below_set ?_ (Aside0.out (by assumption)))⟩) :
  Calls Tryd.prog 5 #[.agg #[.int .i64 a0_0, .slice A0_1 l0_1.length c0_1]] w fun e w' => e = .returned (.bool r) ∧ Below w.heap.size w w' := by
 have hu54 := Tryd.underlying54
 have hu59 := Tryd.underlying59
 have HR0_1 := Aside0.mk hr0_1
 have HC0_1 := Aside0.mk hc0_1
 clear hr0_1 hc0_1
 have HB := Aside0.mk (Below.refl w.heap.size w)
 have H : ((laws_szBag.f k a0_0 l0_1 1048576).bind fun t217 => (if t217 < 0 then (some true) else ((laws_toBag.f k a0_0 l0_1).bind fun bt218 => ((spec_BagText.f k bt218.1 bt218.2).bind fun t222 => ((laws_toBag.f k a0_0 l0_1).bind fun bt223 => ((impl_BagText.f k bt223.1 bt223.2).bind fun t228 => (if t228.toList = t222.toList then ((laws_toBag.f k a0_0 l0_1).bind fun bt229 => ((laws_eqBag.f k bt223.1 bt223.2 bt229.1 bt229.2).bind fun t233 => (if t233 = true then (some true) else (some false)))) else (some false)))))))) = some r := h
 clear h
 replace H := Option.bind_eq_some_iff.mp H
 obtain ⟨t217, A20, H⟩ := H
 replace H : (if t217 < 0 then (some true) else ((laws_toBag.f k a0_0 l0_1).bind fun bt218 => ((spec_BagText.f k bt218.1 bt218.2).bind fun t222 => ((laws_toBag.f k a0_0 l0_1).bind fun bt223 => ((impl_BagText.f k bt223.1 bt223.2).bind fun t228 => (if t228.toList = t222.toList then ((laws_toBag.f k a0_0 l0_1).bind fun bt229 => ((laws_eqBag.f k bt223.1 bt223.2 bt229.1 bt229.2).bind fun t233 => (if t233 = true then (some true) else (some false)))) else (some false))))))) = some r := H
 have A2 := Aside0.mk A20
 clear A20
 by_cases c3 : t217 < 0
 ·rw [if_pos c3] at H
  have c3b0 : decide (t217 < 0) = true := decide_eq_true c3
  clear c3
  obtain rfl := Option.some.inj H
  go_enter Tryd.func5, Tryd.ntmps5
  go_wp2_with (first | ((with_reducible refine gate_dst (N := 1) rfl ?_); refine bx_ 1 #[.int .i64 a0_0, .slice A0_1 l0_1.length c0_1] 54 ?_; intro gb216 hg w4 hbox hb; have BK216 := Aside0.mk (hbox); have GW216 := gw_ hg; have GE216 := gw_ hg; replace HB := bs_ hb; clear hb hbox hg; obtain ⟨hcz5_0, hcz5_1, hfz5_0, hfz5_1⟩ := b2_ BK216) | ((with_reducible refine gate_callee (f := 32) rfl ?_); refine gsL_ (some 9) Tryd.func32 #[.agg #[.int .i64 a0_0, .slice A0_1 l0_1.length c0_1], .int .i64 1048576] ?_; (with_reducible refine (laws_szBag.calls k a0_0 _ _ l0_1 1048576 t217 _ ?side1 ?side2 A2.out).mono ?_); (case side1 => exact ck_ (Kd.C_below HR0_1.out HB.out)); (case side2 => exact HC0_1.out); rintro e w6 ⟨rfl, hb⟩; refine ⟨_, rfl, ?_⟩; replace BK216 := bkb_ BK216 hb; replace HB := bs_ hb; (try clear hb); (try clear hb2); (try clear hk); (try clear hi)))
  go_ret
  exact ⟨er_, bb_⟩
 ·rw [if_neg c3] at H
  have c3b0 : decide (t217 < 0) = false := decide_eq_false c3
  clear c3
  replace H := Option.bind_eq_some_iff.mp H
  obtain ⟨⟨t218, t219⟩, A70, H⟩ := H
  replace H : ((spec_BagText.f k t218 t219).bind fun t222 => ((laws_toBag.f k a0_0 l0_1).bind fun bt223 => ((impl_BagText.f k bt223.1 bt223.2).bind fun t228 => (if t228.toList = t222.toList then ((laws_toBag.f k a0_0 l0_1).bind fun bt229 => ((laws_eqBag.f k bt223.1 bt223.2 bt229.1 bt229.2).bind fun t233 => (if t233 = true then (some true) else (some false)))) else (some false))))) = some r := H
  have A7 := Aside0.mk A70
  clear A70
  replace H := Option.bind_eq_some_iff.mp H
  obtain ⟨t222, A80, H⟩ := H
  replace H : ((laws_toBag.f k a0_0 l0_1).bind fun bt223 => ((impl_BagText.f k bt223.1 bt223.2).bind fun t228 => (if t228.toList = t222.toList then ((laws_toBag.f k a0_0 l0_1).bind fun bt229 => ((laws_eqBag.f k bt223.1 bt223.2 bt229.1 bt229.2).bind fun t233 => (if t233 = true then (some true) else (some false)))) else (some false)))) = some r := H
  have A8 := Aside0.mk A80
  clear A80
  replace H := Option.bind_eq_some_iff.mp H
  obtain ⟨⟨t223, t224⟩, A90, H⟩ := H
  replace H : ((impl_BagText.f k t223 t224).bind fun t228 => (if t228.toList = t222.toList then ((laws_toBag.f k a0_0 l0_1).bind fun bt229 => ((laws_eqBag.f k t223 t224 bt229.1 bt229.2).bind fun t233 => (if t233 = true then (some true) else (some false)))) else (some false))) = some r := H
  have A9 := Aside0.mk A90
  clear A90
  replace H := Option.bind_eq_some_iff.mp H
  obtain ⟨t228, A100, H⟩ := H
  replace H : (if t228.toList = t222.toList then ((laws_toBag.f k a0_0 l0_1).bind fun bt229 => ((laws_eqBag.f k t223 t224 bt229.1 bt229.2).bind fun t233 => (if t233 = true then (some true) else (some false)))) else (some false)) = some r := H
  have A10 := Aside0.mk A100
  clear A100
  by_cases c11 : t228.toList = t222.toList
  ·rw [if_pos c11] at H
   have c11b0 : (t228.toList == t222.toList) = true := beq_iff_eq.mpr c11
   have c11b1 : (t228.toList != t222.toList) = false := bne_eq_false_iff_eq.mpr c11
   clear c11
   replace H := Option.bind_eq_some_iff.mp H
   obtain ⟨⟨t229, t230⟩, A120, H⟩ := H
   replace H : ((laws_eqBag.f k t223 t224 t229 t230).bind fun t233 => (if t233 = true then (some true) else (some false))) = some r := H
   have A12 := Aside0.mk A120
   clear A120
   replace H := Option.bind_eq_some_iff.mp H
   obtain ⟨t233, A130, H⟩ := H
   replace H : (if t233 = true then (some true) else (some false)) = some r := H
   have A13 := Aside0.mk A130
   clear A130
   by_cases c14 : t233 = true
   ·subst c14
    have H1 : (some true) = some r := by rw [if_pos rfl] at H; exact H
    clear H
    have H := H1
    clear H1
    obtain rfl := Option.some.inj H
    go_enter Tryd.func5, Tryd.ntmps5
    try go_wp2_with (first | ((with_reducible refine gate_dst (N := 1) rfl ?_); refine bx_ 1 #[.int .i64 a0_0, .slice A0_1 l0_1.length c0_1] 54 ?_; intro gb216 hg w15 hbox hb; have BK216 := Aside0.mk (hbox); have GW216 := gw_ hg; have GE216 := gw_ hg; replace HB := bs_ hb; clear hb hbox hg; obtain ⟨hcz16_0, hcz16_1, hfz16_0, hfz16_1⟩ := b2_ BK216) | ((with_reducible refine gate_callee (f := 32) rfl ?_); refine gsL_ (some 9) Tryd.func32 #[.agg #[.int .i64 a0_0, .slice A0_1 l0_1.length c0_1], .int .i64 1048576] ?_; (with_reducible refine (laws_szBag.calls k a0_0 _ _ l0_1 1048576 t217 _ ?side1 ?side2 A2.out).mono ?_); (case side1 => exact ck_ (Kd.C_below HR0_1.out HB.out)); (case side2 => exact HC0_1.out); rintro e w17 ⟨rfl, hb⟩; refine ⟨_, rfl, ?_⟩; replace BK216 := bkb_ BK216 hb; replace HB := bs_ hb; (try clear hb); (try clear hb2); (try clear hk); (try clear hi); obtain ⟨hcz18_0, hcz18_1, hfz18_0, hfz18_1⟩ := b2_ BK216) | ((with_reducible refine gate_callee (f := 34) rfl ?_); refine gsL_ (some 13) Tryd.func34 #[.agg #[.int .i64 a0_0, .slice A0_1 l0_1.length c0_1]] ?_; (with_reducible refine (laws_toBag.calls k a0_0 _ _ l0_1 t218 t219 _ ?side1 ?side2 A7.out).mono ?_); (case side1 => exact ck_ (Kd.C_below HR0_1.out HB.out)); (case side2 => exact HC0_1.out); rintro e w19 ⟨v220, rfl, ho0, hb⟩; refine ⟨_, rfl, ?_⟩; have HO221 := Aside0.mk (Kd.S_lower ho0 (below_size bb_)); replace BK216 := bkb_ BK216 hb; replace HB := bs_ hb; (try clear hb); (try clear hb2); (try clear hk); (try clear hi); (try clear ho0); obtain ⟨Ao20, co20, eo20⟩ := Kd.S_slice HO221.out; subst eo20) | ((with_reducible refine gate_callee (f := 33) rfl ?_); refine gsL_ (some 14) Tryd.func33 #[.agg #[.int .i64 t218, .slice Ao20 t219.length co20]] ?_; (with_reducible refine (spec_BagText.calls k t218 _ _ t219 t222 _ ?side1 ?side2 A8.out).mono ?_); (case side1 => exact ck_ (Kd.S_reads' HO221.out).2.2); (case side2 => exact (Kd.S_reads' HO221.out).2.1); rintro e w21 ⟨rfl, hb⟩; refine ⟨_, rfl, ?_⟩; replace HO221 := Aside0.mk (Kd.S_below (sk_ HO221.out) hb); replace BK216 := bkb_ BK216 hb; replace HB := bs_ hb; (try clear hb); (try clear hb2); (try clear hk); (try clear hi); obtain ⟨hcz22_0, hcz22_1, hfz22_0, hfz22_1⟩ := b2_ BK216) | ((with_reducible refine gate_callee (f := 34) rfl ?_); refine gsL_ (some 16) Tryd.func34 #[.agg #[.int .i64 a0_0, .slice A0_1 l0_1.length c0_1]] ?_; (with_reducible refine (laws_toBag.calls k a0_0 _ _ l0_1 t223 t224 _ ?side1 ?side2 A9.out).mono ?_); (case side1 => exact ck_ (Kd.C_below HR0_1.out HB.out)); (case side2 => exact HC0_1.out); rintro e w23 ⟨v225, rfl, ho0, hb⟩; refine ⟨_, rfl, ?_⟩; have HO226 := Aside0.mk (Kd.S_lower (Kd.S_new' ho0 (Kd.S_lt (sk_ HO221.out))) (below_size bb_)); replace HO221 := Aside0.mk (Kd.S_elder' (sk_ HO221.out) (Kd.S_base ho0) hb); replace BK216 := bkb_ BK216 hb; replace HB := bs_ hb; (try clear hb); (try clear hb2); (try clear hk); (try clear hi); (try clear ho0)) | ((with_reducible refine gate_dst (N := 5) rfl ?_); refine bx_ 5 #[.int .i64 0, .slice none 0 0] 59 ?_; intro gb227 hg w24 hbox hb; have BK227 := Aside0.mk (hbox); have GW227 := gw_ hg; have GE227 := gw_ hg; have NB216_227 := nl_ hg BK216; have NB227_216 := ng_ hg BK216; replace HO221 := Aside0.mk (Kd.S_below (sk_ HO221.out) hb); replace HO226 := Aside0.mk (Kd.S_below (sk_ HO226.out) hb); replace BK216 := bkb_ BK216 hb; replace HB := bs_ hb; clear hb hbox hg; have hnb25 := NB227_216.out; have hnc25 := NB216_227.out; obtain ⟨hcz26_0, hcz26_1, hfz26_0, hfz26_1⟩ := b2_ BK227; obtain ⟨Ao27, co27, eo27⟩ := Kd.S_slice HO226.out; subst eo27) | ((with_reducible refine gate_callee (f := 35) rfl ?_); refine gsL_ (some 18) Tryd.func35 #[.agg #[.int .i64 t223, .slice Ao27 t224.length co27]] ?_; (with_reducible refine (impl_BagText.calls k t223 _ _ t224 t228 _ ?side1 ?side2 A10.out).mono ?_); (case side1 => refine (Kd.S_reads' (e := 109) (base := w.heap.size) (ok := fun k_ => (True ∧ some k_ ≠ (.slice Ao20 t219.length co20 : Value).ownBlock)) (n := t224.length) (c := co27) ?_).2.2; exact (sk_ (Kd.S_mono (Kd.S_far (p := ⟨gb227, 1, none⟩) (Kd.S_far (p := ⟨gb227, 0, none⟩) (Kd.S_types HO226.out BK227.out (by decide)) (fun _ hk => hk.2) (.int .i64 t223)) (fun _ hk => hk.2) (.slice Ao27 t224.length co27)) (fun _ h_ => h_.1)))); (case side2 => exact (Kd.S_reads' HO226.out).2.1); rintro e w28 ⟨rfl, hb⟩; refine ⟨_, rfl, ?_⟩; have n0_ := Aside0.mk (Kd.S_below (sk_ (Kd.S_mono (Kd.S_far (p := ⟨gb227, 1, none⟩) (Kd.S_far (p := ⟨gb227, 0, none⟩) (Kd.S_types HO221.out BK227.out (by decide)) (fun _ hk => hk.2) (.int .i64 t223)) (fun _ hk => hk.2) (.slice Ao27 t224.length co27)) (fun _ h_ => h_.1))) hb); have n1_ := Aside0.mk (Kd.S_below (sk_ (Kd.S_mono (Kd.S_far (p := ⟨gb227, 1, none⟩) (Kd.S_far (p := ⟨gb227, 0, none⟩) (Kd.S_types HO226.out BK227.out (by decide)) (fun _ hk => hk.2) (.int .i64 t223)) (fun _ hk => hk.2) (.slice Ao27 t224.length co27)) (fun _ h_ => h_.1))) hb); have n2_ := Aside0.mk (blk_below (g := gb216) (o := .cells #[.int .i64 a0_0, .slice A0_1 l0_1.length c0_1] 54 (0, 0)) (bf2_ NB216_227 (bkx_ BK216.out)) hb); have n3_ := Aside0.mk (blk_below (g := gb227) (o := .cells #[.int .i64 t223, .slice Ao27 t224.length co27] 59 (0, 0)) (bp2_ (bkx_ BK227.out)) hb); have n4_ := bs_ hb; clear HO221; clear HO226; clear BK216; clear BK227; clear HB; have HO221 := n0_; have HO226 := n1_; have BK216 := n2_; have BK227 := n3_; have HB := n4_; clear n0_ n1_ n2_ n3_ n4_; (try clear hb); (try clear hb2); (try clear hk); (try clear hi)))
    replace HO221 := Aside0.mk (Kd.S_drew HO221.out)
    replace HO226 := Aside0.mk (Kd.S_drew HO226.out)
    replace BK216 := Aside0.mk (blk_drew BK216.out)
    replace BK227 := Aside0.mk (blk_drew BK227.out)
    replace HB := Aside0.mk (below_drew1 HB.out)
    refine start_ (n := 5) (S := fun w' => w'.cell? ⟨gb227, 0, none⟩ = some (.int .i64 t223) ∧ w'.cell? ⟨gb227, 1, none⟩ = some (.slice Ao27 t224.length co27) ∧ w'.cell? ⟨gb216, 0, none⟩ = some (.int .i64 a0_0) ∧ w'.cell? ⟨gb216, 1, none⟩ = some (.slice A0_1 l0_1.length c0_1)) (ds := []) (tf 0 5) (by kernel_rfl) rfl rfl ⟨bc_ BK227 0, bc_ BK227 1, bc_ BK216 0, bc_ BK216 1⟩ (fun hHeld => ?_)
    generalize w28.drew = w29 at HO221 HO226 BK216 BK227 HB hHeld ⊢
    refine take_ (i := 0) (N := some 22) (v := ?_) (a' := ?_) (tf 1 4) rfl rfl (by kernel_rfl) (fun _ _ _ h => h) (Or.inl ⟨by rfl, ?_⟩) hHeld ?_ ?_
    rotate_left
    ·rintro w' ⟨s0, s1, s2, s3⟩
     go_simp
     with_reducible rfl
    rotate_left
    ·simp only [Act.put, List.setIfInBounds_toArray, List.set_cons_zero, List.set_cons_succ, i64_w, i32_w]
     rfl
    refine take_ (i := 1) (N := some 23) (v := ?_) (a' := ?_) (tf 2 3) rfl rfl (by kernel_rfl) (fun _ _ _ h => h) (Or.inl ⟨by rfl, ?_⟩) hHeld ?_ ?_
    rotate_left
    ·rintro w' ⟨s0, s1, s2, s3⟩
     go_simp
     with_reducible rfl
    rotate_left
    ·simp only [Act.put, List.setIfInBounds_toArray, List.set_cons_zero, List.set_cons_succ, i64_w, i32_w]
     rfl
    refine one_ (i := 2) (N := some 24) (tf 3 2) rfl rfl (by kernel_rfl) (by decide) (fun K hK => ?_)
    refine gs_ Tryd.func34 #[.agg #[.int .i64 a0_0, .slice A0_1 l0_1.length c0_1]] ?_
    with_reducible refine (laws_toBag.calls k a0_0 _ _ l0_1 t229 t230 _ ?side1 ?side2 A12.out).mono ?_
    (case side1 => exact ck_ (Kd.C_below HR0_1.out HB.out))
    (case side2 => exact HC0_1.out)
    rintro e w30 ⟨v231, rfl, ho0, hb⟩
    refine ⟨_, rfl, ?_⟩
    have HO232 := Aside0.mk (Kd.S_lower (Kd.S_new' (Kd.S_new' ho0 (Kd.S_lt (sk_ HO221.out))) (Kd.S_lt (sk_ HO226.out))) (below_size bb_))
    replace HO221 := Aside0.mk (Kd.S_elder' (sk_ HO221.out) (Kd.S_base ho0) hb)
    replace HO226 := Aside0.mk (Kd.S_elder' (sk_ HO226.out) (Kd.S_base ho0) hb)
    replace BK216 := bkb_ BK216 hb
    replace BK227 := bkb_ BK227 hb
    replace HB := bs_ hb
    (try clear hb)
    (try clear hb2)
    (try clear hk)
    (try clear hi)
    (try clear ho0)
    obtain ⟨Ao31, co31, eo31⟩ := Kd.S_slice HO232.out
    (first | subst eo31 | (injection eo31 with f1_ f2_ f3_; have f4_ := f1_.symm; have f5_ := f3_.symm; clear f1_ f2_ f3_; subst f4_; subst f5_))
    refine hK.out _ _ ⟨bc_ BK227 0, bc_ BK227 1, bc_ BK216 0, bc_ BK216 1⟩ (fun hHeld => ?_)
    clear hK K
    refine nm_ ?_
    refine one_ (i := 3) (N := some 25) (tf 4 1) rfl rfl (by kernel_rfl) (by decide) (fun K hK => ?_)
    refine gs_ Tryd.func36 #[.agg #[.int .i64 t223, .slice Ao27 t224.length co27], .agg #[.int .i64 t229, .slice Ao31 t230.length co31]] ?_
    with_reducible refine (laws_eqBag.calls k t223 _ _ t224 t229 _ _ t230 true _ ?side1 ?side2 ?side3 ?side4 A13.out).mono ?_
    (case side1 => exact ck_ (Kd.S_reads' HO226.out).2.2)
    (case side2 => exact (Kd.S_reads' HO226.out).2.1)
    (case side3 => exact ck_ (Kd.S_reads' HO232.out).2.2)
    (case side4 => exact (Kd.S_reads' HO232.out).2.1)
    rintro e w32 ⟨rfl, hb⟩
    refine ⟨_, rfl, ?_⟩
    replace HO221 := Aside0.mk (Kd.S_below (sk_ HO221.out) hb)
    replace HO226 := Aside0.mk (Kd.S_below (sk_ HO226.out) hb)
    replace HO232 := Aside0.mk (Kd.S_below (sk_ HO232.out) hb)
    replace BK216 := bkb_ BK216 hb
    replace BK227 := bkb_ BK227 hb
    replace HB := bs_ hb
    (try clear hb)
    (try clear hb2)
    (try clear hk)
    (try clear hi)
    refine hK.out _ _ ⟨bc_ BK227 0, bc_ BK227 1, bc_ BK216 0, bc_ BK216 1⟩ (fun hHeld => ?_)
    clear hK K
    refine nm_ ?_
    refine pure_ (i := 4) (N := some 26) (v := ?_) (a' := ?_) (tf 5 0) rfl rfl (by kernel_rfl) (fun _ _ _ h => h) (Or.inl ⟨by rfl, ?_⟩) ?_ ?_
    rotate_left
    ·intro w'
     go_simp
     with_reducible rfl
    rotate_left
    ·simp only [Act.put, List.setIfInBounds_toArray, List.set_cons_zero, List.set_cons_succ, i64_w, i32_w]
     rfl
    refine done_ (by kernel_rfl) ?_
    try go_wp2
    go_ret
    exact ⟨er_, bb_⟩
   ·replace c14 := Bool.eq_false_iff.mpr c14
    subst c14
    have H1 : (some false) = some r := by rw [if_neg (show ¬ (false = true) by decide)] at H; exact H
    clear H
    have H := H1
    clear H1
    obtain rfl := Option.some.inj H
    go_enter Tryd.func5, Tryd.ntmps5
    try go_wp2_with (first | ((with_reducible refine gate_dst (N := 1) rfl ?_); refine bx_ 1 #[.int .i64 a0_0, .slice A0_1 l0_1.length c0_1] 54 ?_; intro gb216 hg w33 hbox hb; have BK216 := Aside0.mk (hbox); have GW216 := gw_ hg; have GE216 := gw_ hg; replace HB := bs_ hb; clear hb hbox hg; obtain ⟨hcz34_0, hcz34_1, hfz34_0, hfz34_1⟩ := b2_ BK216) | ((with_reducible refine gate_callee (f := 32) rfl ?_); refine gsL_ (some 9) Tryd.func32 #[.agg #[.int .i64 a0_0, .slice A0_1 l0_1.length c0_1], .int .i64 1048576] ?_; (with_reducible refine (laws_szBag.calls k a0_0 _ _ l0_1 1048576 t217 _ ?side1 ?side2 A2.out).mono ?_); (case side1 => exact ck_ (Kd.C_below HR0_1.out HB.out)); (case side2 => exact HC0_1.out); rintro e w35 ⟨rfl, hb⟩; refine ⟨_, rfl, ?_⟩; replace BK216 := bkb_ BK216 hb; replace HB := bs_ hb; (try clear hb); (try clear hb2); (try clear hk); (try clear hi); obtain ⟨hcz36_0, hcz36_1, hfz36_0, hfz36_1⟩ := b2_ BK216) | ((with_reducible refine gate_callee (f := 34) rfl ?_); refine gsL_ (some 13) Tryd.func34 #[.agg #[.int .i64 a0_0, .slice A0_1 l0_1.length c0_1]] ?_; (with_reducible refine (laws_toBag.calls k a0_0 _ _ l0_1 t218 t219 _ ?side1 ?side2 A7.out).mono ?_); (case side1 => exact ck_ (Kd.C_below HR0_1.out HB.out)); (case side2 => exact HC0_1.out); rintro e w37 ⟨v220, rfl, ho0, hb⟩; refine ⟨_, rfl, ?_⟩; have HO221 := Aside0.mk (Kd.S_lower ho0 (below_size bb_)); replace BK216 := bkb_ BK216 hb; replace HB := bs_ hb; (try clear hb); (try clear hb2); (try clear hk); (try clear hi); (try clear ho0); obtain ⟨Ao38, co38, eo38⟩ := Kd.S_slice HO221.out; subst eo38) | ((with_reducible refine gate_callee (f := 33) rfl ?_); refine gsL_ (some 14) Tryd.func33 #[.agg #[.int .i64 t218, .slice Ao38 t219.length co38]] ?_; (with_reducible refine (spec_BagText.calls k t218 _ _ t219 t222 _ ?side1 ?side2 A8.out).mono ?_); (case side1 => exact ck_ (Kd.S_reads' HO221.out).2.2); (case side2 => exact (Kd.S_reads' HO221.out).2.1); rintro e w39 ⟨rfl, hb⟩; refine ⟨_, rfl, ?_⟩; replace HO221 := Aside0.mk (Kd.S_below (sk_ HO221.out) hb); replace BK216 := bkb_ BK216 hb; replace HB := bs_ hb; (try clear hb); (try clear hb2); (try clear hk); (try clear hi); obtain ⟨hcz40_0, hcz40_1, hfz40_0, hfz40_1⟩ := b2_ BK216) | ((with_reducible refine gate_callee (f := 34) rfl ?_); refine gsL_ (some 16) Tryd.func34 #[.agg #[.int .i64 a0_0, .slice A0_1 l0_1.length c0_1]] ?_; (with_reducible refine (laws_toBag.calls k a0_0 _ _ l0_1 t223 t224 _ ?side1 ?side2 A9.out).mono ?_); (case side1 => exact ck_ (Kd.C_below HR0_1.out HB.out)); (case side2 => exact HC0_1.out); rintro e w41 ⟨v225, rfl, ho0, hb⟩; refine ⟨_, rfl, ?_⟩; have HO226 := Aside0.mk (Kd.S_lower (Kd.S_new' ho0 (Kd.S_lt (sk_ HO221.out))) (below_size bb_)); replace HO221 := Aside0.mk (Kd.S_elder' (sk_ HO221.out) (Kd.S_base ho0) hb); replace BK216 := bkb_ BK216 hb; replace HB := bs_ hb; (try clear hb); (try clear hb2); (try clear hk); (try clear hi); (try clear ho0)) | ((with_reducible refine gate_dst (N := 5) rfl ?_); refine bx_ 5 #[.int .i64 0, .slice none 0 0] 59 ?_; intro gb227 hg w42 hbox hb; have BK227 := Aside0.mk (hbox); have GW227 := gw_ hg; have GE227 := gw_ hg; have NB216_227 := nl_ hg BK216; have NB227_216 := ng_ hg BK216; replace HO221 := Aside0.mk (Kd.S_below (sk_ HO221.out) hb); replace HO226 := Aside0.mk (Kd.S_below (sk_ HO226.out) hb); replace BK216 := bkb_ BK216 hb; replace HB := bs_ hb; clear hb hbox hg; have hnb43 := NB227_216.out; have hnc43 := NB216_227.out; obtain ⟨hcz44_0, hcz44_1, hfz44_0, hfz44_1⟩ := b2_ BK227; obtain ⟨Ao45, co45, eo45⟩ := Kd.S_slice HO226.out; subst eo45) | ((with_reducible refine gate_callee (f := 35) rfl ?_); refine gsL_ (some 18) Tryd.func35 #[.agg #[.int .i64 t223, .slice Ao45 t224.length co45]] ?_; (with_reducible refine (impl_BagText.calls k t223 _ _ t224 t228 _ ?side1 ?side2 A10.out).mono ?_); (case side1 => refine (Kd.S_reads' (e := 109) (base := w.heap.size) (ok := fun k_ => (True ∧ some k_ ≠ (.slice Ao38 t219.length co38 : Value).ownBlock)) (n := t224.length) (c := co45) ?_).2.2; exact (sk_ (Kd.S_mono (Kd.S_far (p := ⟨gb227, 1, none⟩) (Kd.S_far (p := ⟨gb227, 0, none⟩) (Kd.S_types HO226.out BK227.out (by decide)) (fun _ hk => hk.2) (.int .i64 t223)) (fun _ hk => hk.2) (.slice Ao45 t224.length co45)) (fun _ h_ => h_.1)))); (case side2 => exact (Kd.S_reads' HO226.out).2.1); rintro e w46 ⟨rfl, hb⟩; refine ⟨_, rfl, ?_⟩; have n0_ := Aside0.mk (Kd.S_below (sk_ (Kd.S_mono (Kd.S_far (p := ⟨gb227, 1, none⟩) (Kd.S_far (p := ⟨gb227, 0, none⟩) (Kd.S_types HO221.out BK227.out (by decide)) (fun _ hk => hk.2) (.int .i64 t223)) (fun _ hk => hk.2) (.slice Ao45 t224.length co45)) (fun _ h_ => h_.1))) hb); have n1_ := Aside0.mk (Kd.S_below (sk_ (Kd.S_mono (Kd.S_far (p := ⟨gb227, 1, none⟩) (Kd.S_far (p := ⟨gb227, 0, none⟩) (Kd.S_types HO226.out BK227.out (by decide)) (fun _ hk => hk.2) (.int .i64 t223)) (fun _ hk => hk.2) (.slice Ao45 t224.length co45)) (fun _ h_ => h_.1))) hb); have n2_ := Aside0.mk (blk_below (g := gb216) (o := .cells #[.int .i64 a0_0, .slice A0_1 l0_1.length c0_1] 54 (0, 0)) (bf2_ NB216_227 (bkx_ BK216.out)) hb); have n3_ := Aside0.mk (blk_below (g := gb227) (o := .cells #[.int .i64 t223, .slice Ao45 t224.length co45] 59 (0, 0)) (bp2_ (bkx_ BK227.out)) hb); have n4_ := bs_ hb; clear HO221; clear HO226; clear BK216; clear BK227; clear HB; have HO221 := n0_; have HO226 := n1_; have BK216 := n2_; have BK227 := n3_; have HB := n4_; clear n0_ n1_ n2_ n3_ n4_; (try clear hb); (try clear hb2); (try clear hk); (try clear hi)))
    replace HO221 := Aside0.mk (Kd.S_drew HO221.out)
    replace HO226 := Aside0.mk (Kd.S_drew HO226.out)
    replace BK216 := Aside0.mk (blk_drew BK216.out)
    replace BK227 := Aside0.mk (blk_drew BK227.out)
    replace HB := Aside0.mk (below_drew1 HB.out)
    refine start_ (n := 5) (S := fun w' => w'.cell? ⟨gb227, 0, none⟩ = some (.int .i64 t223) ∧ w'.cell? ⟨gb227, 1, none⟩ = some (.slice Ao45 t224.length co45) ∧ w'.cell? ⟨gb216, 0, none⟩ = some (.int .i64 a0_0) ∧ w'.cell? ⟨gb216, 1, none⟩ = some (.slice A0_1 l0_1.length c0_1)) (ds := []) (tf 0 5) (by kernel_rfl) rfl rfl ⟨bc_ BK227 0, bc_ BK227 1, bc_ BK216 0, bc_ BK216 1⟩ (fun hHeld => ?_)
    generalize w46.drew = w47 at HO221 HO226 BK216 BK227 HB hHeld ⊢
    refine take_ (i := 0) (N := some 22) (v := ?_) (a' := ?_) (tf 1 4) rfl rfl (by kernel_rfl) (fun _ _ _ h => h) (Or.inl ⟨by rfl, ?_⟩) hHeld ?_ ?_
    rotate_left
    ·rintro w' ⟨s0, s1, s2, s3⟩
     go_simp
     with_reducible rfl
    rotate_left
    ·simp only [Act.put, List.setIfInBounds_toArray, List.set_cons_zero, List.set_cons_succ, i64_w, i32_w]
     rfl
    refine take_ (i := 1) (N := some 23) (v := ?_) (a' := ?_) (tf 2 3) rfl rfl (by kernel_rfl) (fun _ _ _ h => h) (Or.inl ⟨by rfl, ?_⟩) hHeld ?_ ?_
    rotate_left
    ·rintro w' ⟨s0, s1, s2, s3⟩
     go_simp
     with_reducible rfl
    rotate_left
    ·simp only [Act.put, List.setIfInBounds_toArray, List.set_cons_zero, List.set_cons_succ, i64_w, i32_w]
     rfl
    refine one_ (i := 2) (N := some 24) (tf 3 2) rfl rfl (by kernel_rfl) (by decide) (fun K hK => ?_)
    refine gs_ Tryd.func34 #[.agg #[.int .i64 a0_0, .slice A0_1 l0_1.length c0_1]] ?_
    with_reducible refine (laws_toBag.calls k a0_0 _ _ l0_1 t229 t230 _ ?side1 ?side2 A12.out).mono ?_
    (case side1 => exact ck_ (Kd.C_below HR0_1.out HB.out))
    (case side2 => exact HC0_1.out)
    rintro e w48 ⟨v231, rfl, ho0, hb⟩
    refine ⟨_, rfl, ?_⟩
    have HO232 := Aside0.mk (Kd.S_lower (Kd.S_new' (Kd.S_new' ho0 (Kd.S_lt (sk_ HO221.out))) (Kd.S_lt (sk_ HO226.out))) (below_size bb_))
    replace HO221 := Aside0.mk (Kd.S_elder' (sk_ HO221.out) (Kd.S_base ho0) hb)
    replace HO226 := Aside0.mk (Kd.S_elder' (sk_ HO226.out) (Kd.S_base ho0) hb)
    replace BK216 := bkb_ BK216 hb
    replace BK227 := bkb_ BK227 hb
    replace HB := bs_ hb
    (try clear hb)
    (try clear hb2)
    (try clear hk)
    (try clear hi)
    (try clear ho0)
    obtain ⟨Ao49, co49, eo49⟩ := Kd.S_slice HO232.out
    (first | subst eo49 | (injection eo49 with f1_ f2_ f3_; have f4_ := f1_.symm; have f5_ := f3_.symm; clear f1_ f2_ f3_; subst f4_; subst f5_))
    refine hK.out _ _ ⟨bc_ BK227 0, bc_ BK227 1, bc_ BK216 0, bc_ BK216 1⟩ (fun hHeld => ?_)
    clear hK K
    refine nm_ ?_
    refine one_ (i := 3) (N := some 25) (tf 4 1) rfl rfl (by kernel_rfl) (by decide) (fun K hK => ?_)
    refine gs_ Tryd.func36 #[.agg #[.int .i64 t223, .slice Ao45 t224.length co45], .agg #[.int .i64 t229, .slice Ao49 t230.length co49]] ?_
    with_reducible refine (laws_eqBag.calls k t223 _ _ t224 t229 _ _ t230 false _ ?side1 ?side2 ?side3 ?side4 A13.out).mono ?_
    (case side1 => exact ck_ (Kd.S_reads' HO226.out).2.2)
    (case side2 => exact (Kd.S_reads' HO226.out).2.1)
    (case side3 => exact ck_ (Kd.S_reads' HO232.out).2.2)
    (case side4 => exact (Kd.S_reads' HO232.out).2.1)
    rintro e w50 ⟨rfl, hb⟩
    refine ⟨_, rfl, ?_⟩
    replace HO221 := Aside0.mk (Kd.S_below (sk_ HO221.out) hb)
    replace HO226 := Aside0.mk (Kd.S_below (sk_ HO226.out) hb)
    replace HO232 := Aside0.mk (Kd.S_below (sk_ HO232.out) hb)
    replace BK216 := bkb_ BK216 hb
    replace BK227 := bkb_ BK227 hb
    replace HB := bs_ hb
    (try clear hb)
    (try clear hb2)
    (try clear hk)
    (try clear hi)
    refine hK.out _ _ ⟨bc_ BK227 0, bc_ BK227 1, bc_ BK216 0, bc_ BK216 1⟩ (fun hHeld => ?_)
    clear hK K
    refine nm_ ?_
    refine pure_ (i := 4) (N := some 26) (v := ?_) (a' := ?_) (tf 5 0) rfl rfl (by kernel_rfl) (fun _ _ _ h => h) (Or.inl ⟨by rfl, ?_⟩) ?_ ?_
    rotate_left
    ·intro w'
     go_simp
     with_reducible rfl
    rotate_left
    ·simp only [Act.put, List.setIfInBounds_toArray, List.set_cons_zero, List.set_cons_succ, i64_w, i32_w]
     rfl
    refine done_ (by kernel_rfl) ?_
    try go_wp2
    go_ret
    exact ⟨er_, bb_⟩
  ·rw [if_neg c11] at H
   have c11b0 : (t228.toList == t222.toList) = false := beq_eq_false_iff_ne.mpr c11
   have c11b1 : (t228.toList != t222.toList) = true := bne_iff_ne.mpr c11
   obtain rfl := Option.some.inj H
   go_enter Tryd.func5, Tryd.ntmps5
   go_wp2_with (first | ((with_reducible refine gate_dst (N := 1) rfl ?_); refine bx_ 1 #[.int .i64 a0_0, .slice A0_1 l0_1.length c0_1] 54 ?_; intro gb216 hg w51 hbox hb; have BK216 := Aside0.mk (hbox); have GW216 := gw_ hg; have GE216 := gw_ hg; replace HB := bs_ hb; clear hb hbox hg; obtain ⟨hcz52_0, hcz52_1, hfz52_0, hfz52_1⟩ := b2_ BK216) | ((with_reducible refine gate_callee (f := 32) rfl ?_); refine gsL_ (some 9) Tryd.func32 #[.agg #[.int .i64 a0_0, .slice A0_1 l0_1.length c0_1], .int .i64 1048576] ?_; (with_reducible refine (laws_szBag.calls k a0_0 _ _ l0_1 1048576 t217 _ ?side1 ?side2 A2.out).mono ?_); (case side1 => exact ck_ (Kd.C_below HR0_1.out HB.out)); (case side2 => exact HC0_1.out); rintro e w53 ⟨rfl, hb⟩; refine ⟨_, rfl, ?_⟩; replace BK216 := bkb_ BK216 hb; replace HB := bs_ hb; (try clear hb); (try clear hb2); (try clear hk); (try clear hi); obtain ⟨hcz54_0, hcz54_1, hfz54_0, hfz54_1⟩ := b2_ BK216) | ((with_reducible refine gate_callee (f := 34) rfl ?_); refine gsL_ (some 13) Tryd.func34 #[.agg #[.int .i64 a0_0, .slice A0_1 l0_1.length c0_1]] ?_; (with_reducible refine (laws_toBag.calls k a0_0 _ _ l0_1 t218 t219 _ ?side1 ?side2 A7.out).mono ?_); (case side1 => exact ck_ (Kd.C_below HR0_1.out HB.out)); (case side2 => exact HC0_1.out); rintro e w55 ⟨v220, rfl, ho0, hb⟩; refine ⟨_, rfl, ?_⟩; have HO221 := Aside0.mk (Kd.S_lower ho0 (below_size bb_)); replace BK216 := bkb_ BK216 hb; replace HB := bs_ hb; (try clear hb); (try clear hb2); (try clear hk); (try clear hi); (try clear ho0); obtain ⟨Ao56, co56, eo56⟩ := Kd.S_slice HO221.out; subst eo56) | ((with_reducible refine gate_callee (f := 33) rfl ?_); refine gsL_ (some 14) Tryd.func33 #[.agg #[.int .i64 t218, .slice Ao56 t219.length co56]] ?_; (with_reducible refine (spec_BagText.calls k t218 _ _ t219 t222 _ ?side1 ?side2 A8.out).mono ?_); (case side1 => exact ck_ (Kd.S_reads' HO221.out).2.2); (case side2 => exact (Kd.S_reads' HO221.out).2.1); rintro e w57 ⟨rfl, hb⟩; refine ⟨_, rfl, ?_⟩; replace HO221 := Aside0.mk (Kd.S_below (sk_ HO221.out) hb); replace BK216 := bkb_ BK216 hb; replace HB := bs_ hb; (try clear hb); (try clear hb2); (try clear hk); (try clear hi); obtain ⟨hcz58_0, hcz58_1, hfz58_0, hfz58_1⟩ := b2_ BK216) | ((with_reducible refine gate_callee (f := 34) rfl ?_); refine gsL_ (some 16) Tryd.func34 #[.agg #[.int .i64 a0_0, .slice A0_1 l0_1.length c0_1]] ?_; (with_reducible refine (laws_toBag.calls k a0_0 _ _ l0_1 t223 t224 _ ?side1 ?side2 A9.out).mono ?_); (case side1 => exact ck_ (Kd.C_below HR0_1.out HB.out)); (case side2 => exact HC0_1.out); rintro e w59 ⟨v225, rfl, ho0, hb⟩; refine ⟨_, rfl, ?_⟩; have HO226 := Aside0.mk (Kd.S_lower (Kd.S_new' ho0 (Kd.S_lt (sk_ HO221.out))) (below_size bb_)); replace HO221 := Aside0.mk (Kd.S_elder' (sk_ HO221.out) (Kd.S_base ho0) hb); replace BK216 := bkb_ BK216 hb; replace HB := bs_ hb; (try clear hb); (try clear hb2); (try clear hk); (try clear hi); (try clear ho0)) | ((with_reducible refine gate_dst (N := 5) rfl ?_); refine bx_ 5 #[.int .i64 0, .slice none 0 0] 59 ?_; intro gb227 hg w60 hbox hb; have BK227 := Aside0.mk (hbox); have GW227 := gw_ hg; have GE227 := gw_ hg; have NB216_227 := nl_ hg BK216; have NB227_216 := ng_ hg BK216; replace HO221 := Aside0.mk (Kd.S_below (sk_ HO221.out) hb); replace HO226 := Aside0.mk (Kd.S_below (sk_ HO226.out) hb); replace BK216 := bkb_ BK216 hb; replace HB := bs_ hb; clear hb hbox hg; have hnb61 := NB227_216.out; have hnc61 := NB216_227.out; obtain ⟨hcz62_0, hcz62_1, hfz62_0, hfz62_1⟩ := b2_ BK227; obtain ⟨Ao63, co63, eo63⟩ := Kd.S_slice HO226.out; subst eo63) | ((with_reducible refine gate_callee (f := 35) rfl ?_); refine gsL_ (some 18) Tryd.func35 #[.agg #[.int .i64 t223, .slice Ao63 t224.length co63]] ?_; (with_reducible refine (impl_BagText.calls k t223 _ _ t224 t228 _ ?side1 ?side2 A10.out).mono ?_); (case side1 => refine (Kd.S_reads' (e := 109) (base := w.heap.size) (ok := fun k_ => (True ∧ some k_ ≠ (.slice Ao56 t219.length co56 : Value).ownBlock)) (n := t224.length) (c := co63) ?_).2.2; exact (sk_ (Kd.S_mono (Kd.S_far (p := ⟨gb227, 1, none⟩) (Kd.S_far (p := ⟨gb227, 0, none⟩) (Kd.S_types HO226.out BK227.out (by decide)) (fun _ hk => hk.2) (.int .i64 t223)) (fun _ hk => hk.2) (.slice Ao63 t224.length co63)) (fun _ h_ => h_.1)))); (case side2 => exact (Kd.S_reads' HO226.out).2.1); rintro e w64 ⟨rfl, hb⟩; refine ⟨_, rfl, ?_⟩; have n0_ := Aside0.mk (Kd.S_below (sk_ (Kd.S_mono (Kd.S_far (p := ⟨gb227, 1, none⟩) (Kd.S_far (p := ⟨gb227, 0, none⟩) (Kd.S_types HO221.out BK227.out (by decide)) (fun _ hk => hk.2) (.int .i64 t223)) (fun _ hk => hk.2) (.slice Ao63 t224.length co63)) (fun _ h_ => h_.1))) hb); have n1_ := Aside0.mk (Kd.S_below (sk_ (Kd.S_mono (Kd.S_far (p := ⟨gb227, 1, none⟩) (Kd.S_far (p := ⟨gb227, 0, none⟩) (Kd.S_types HO226.out BK227.out (by decide)) (fun _ hk => hk.2) (.int .i64 t223)) (fun _ hk => hk.2) (.slice Ao63 t224.length co63)) (fun _ h_ => h_.1))) hb); have n2_ := Aside0.mk (blk_below (g := gb216) (o := .cells #[.int .i64 a0_0, .slice A0_1 l0_1.length c0_1] 54 (0, 0)) (bf2_ NB216_227 (bkx_ BK216.out)) hb); have n3_ := Aside0.mk (blk_below (g := gb227) (o := .cells #[.int .i64 t223, .slice Ao63 t224.length co63] 59 (0, 0)) (bp2_ (bkx_ BK227.out)) hb); have n4_ := bs_ hb; clear HO221; clear HO226; clear BK216; clear BK227; clear HB; have HO221 := n0_; have HO226 := n1_; have BK216 := n2_; have BK227 := n3_; have HB := n4_; clear n0_ n1_ n2_ n3_ n4_; (try clear hb); (try clear hb2); (try clear hk); (try clear hi)))
   go_ret
   exact ⟨er_, bb_⟩

end Go.Proofs.YthgdmdabdlgliaaDoor.PFnExactBagText
