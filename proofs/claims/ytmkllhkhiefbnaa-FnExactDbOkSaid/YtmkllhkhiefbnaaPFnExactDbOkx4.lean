-- WRITTEN BY xprint.py, a program of this session over the kit's printer: by nobody's hand
-- PRESSED
import Derived.Test.YtmkllhkhiefbnaaPress
import Derived.Test.YtmkllhkhiefbnaaPFnExactDbOkx0
import Derived.Test.YtmkllhkhiefbnaaPFnExactDbOkx3
namespace Go.Proofs.Ytmkllhkhiefbnaa.PFnExactDbOk
open Go.RowKit Go.Proofs.YtmkllhkhiefbnaaW.PrintWords Go.Proofs.YtmkllhkhiefbnaaW.PrintLast Go.Proofs.YtmkllhkhiefbnaaW.PrintMore
set_option linter.unusedVariables false
set_option linter.unusedSimpArgs false
attribute [local go_sem] leq_str geq_str

/-! ### laws_eqRelS: function 36 -/
def laws_eqRelS.l0 : Nat → List (S105) → List (S105) → Int → Option (Bool)
 | 0, _, _, _ => none
 | k + 1, x0, x1, x5 => if x5 < (x0.length : Int) then (if 0 ≤ x5 then (if x5 < (x1.length : Int) then ((laws_eqRel.f k ((rd_T105 x0 x5).f0) ((rd_T105 x0 x5).f1.f0) ((rd_T105 x0 x5).f1.f1) ((rd_T105 x1 x5).f0) ((rd_T105 x1 x5).f1.f0) ((rd_T105 x1 x5).f1.f1)).bind fun t182 => (if t182 = true then (laws_eqRelS.l0 k x0 x1 (wrap64 (x5 + 1))) else (some false))) else (none)) else (none)) else (some true)
def laws_eqRelS.f (k : Nat) (l0 : List (S105)) (l1 : List (S105)) : Option (Bool) := if (l0.length : Int) = (l1.length : Int) then (laws_eqRelS.l0 k l0 l1 0) else (some false)
def laws_eqRelS.T6 : Bool × List (List Nat × List Nat) := (true, [([], []), ([], []), ([0, 1], [0, 1]), ([2], [2]), ([], []), ([], []), ([4, 5], [4, 5]), ([6], [6]), ([3, 7], [3, 7]), ([8], [8])])
def laws_eqRelS.B6 : List Nat := [0, 0, 3, 7, 0, 0, 48, 112, 255, 511]
theorem laws_eqRelS.tab6 : rtab .any (opsOf Try.f36 6) = laws_eqRelS.T6 := by kernel_rfl
theorem laws_eqRelS.bits6 : waitsOk laws_eqRelS.T6.2 laws_eqRelS.B6 = true := by kernel_rfl
set_option maxHeartbeats 8000000 in
set_option maxRecDepth 100000 in
theorem laws_eqRelS.calls (k : Nat) (A0 : Option Addr) (c0 : Nat) (l0 : List (S105)) (A1 : Option Addr) (c1 : Nat) (l1 : List (S105)) (r : Bool) (w : World) (hr0 : Kd.C k105 w A0 l0.length l0) (hc0 : l0.length ≤ c0) (hr1 : Kd.C k105 w A1 l1.length l1) (hc1 : l1.length ≤ c1) (h : laws_eqRelS.f k l0 l1 = some r) :
  Calls Try.prog 36 #[.slice A0 l0.length c0, .slice A1 l1.length c1] w fun e w' => e = .returned (.bool r) ∧ Below w.heap.size w w' := by
 have hu105 := Try.underlying105
 have HR0 := Aside0.mk hr0
 have HC0 := Aside0.mk hc0
 clear hr0 hc0
 have HR1 := Aside0.mk hr1
 have HC1 := Aside0.mk hc1
 clear hr1 hc1
 have HB := Aside0.mk (Below.refl w.heap.size w)
 have H : (if (l0.length : Int) = (l1.length : Int) then (laws_eqRelS.l0 k l0 l1 0) else (some false)) = some r := h
 clear h
 by_cases c3 : (l0.length : Int) = (l1.length : Int)
 ·rw [if_pos c3] at H
  have c3b0 : ((l0.length : Int) == (l1.length : Int)) = true := beq_iff_eq.mpr c3
  have c3b1 : ((l0.length : Int) != (l1.length : Int)) = false := bne_eq_false_iff_eq.mpr c3
  have c3b2 : (l0.length == l1.length) = true := by first | simpa using c3 | (simp at c3 ⊢; omega)
  clear c3
  have H' := Aside0.mk H
  clear H
  go_enter Try.func36, Try.ntmps36
  go_wp2
  go_loopg [5] k (fun kq v5 w' => ∃ (x5_1 : Int), v5 = .int .i64 x5_1 ∧ Aside0 (laws_eqRelS.l0 kq l0 l1 x5_1 = some r) ∧ Aside0 (kq ≤ k) ∧ Aside0 (Below w.heap.size w w'))
  case atStart => exact ⟨(0), (by first | rfl | (simp; done) | (simp [*]; done)), H', ⟨Nat.le_refl _⟩, ⟨by repeat (first | (with_reducible first | exact HB.out | apply below_alloc | apply pw_below_drewN | apply below_drew1) | exact HB.out)⟩⟩
  case round =>
   clear H'
   try clear c1
   try clear p2
   try clear c3
   try clear c3b0
   try clear c3b1
   try clear c3b2
   obtain ⟨x5_1, rfl, HA, HK1, HB⟩ := hrel
   cases gk with
   | zero => exact absurd HA.out (by simp [laws_eqRelS.l0])
   | succ k1 =>
    have H := HA.out
    clear HA
    simp only [laws_eqRelS.l0] at H
    by_cases c4 : x5_1 < (l0.length : Int)
    ·rw [if_pos c4] at H
     have c4b0 : decide (x5_1 < (l0.length : Int)) = true := decide_eq_true c4
     clear c4
     by_cases c5 : 0 ≤ x5_1
     ·rw [if_pos c5] at H
      have c5b0 : decide (0 ≤ x5_1) = true := decide_eq_true c5
      clear c5
      by_cases c6 : x5_1 < (l1.length : Int)
      ·rw [if_pos c6] at H
       have c6b0 : decide (x5_1 < (l1.length : Int)) = true := decide_eq_true c6
       clear c6
       replace H := Option.bind_eq_some_iff.mp H
       obtain ⟨t182, A70, H⟩ := H
       replace H : (if t182 = true then (laws_eqRelS.l0 k1 l0 l1 (wrap64 (x5_1 + 1))) else (some false)) = some r := H
       have A7 := Aside0.mk A70
       clear A70
       by_cases c8 : t182 = true
       ·subst c8
        have H1 : (laws_eqRelS.l0 k1 l0 l1 (wrap64 (x5_1 + 1))) = some r := by rw [if_pos rfl] at H; exact H
        clear H
        have H := H1
        clear H1
        have H' := Aside0.mk H
        clear H
        try go_wp2
        replace HB := Aside0.mk (below_drew1 HB.out)
        have p180 : 0 ≤ (x5_1 : Int) := of_decide_eq_true (by first | (with_reducible assumption) | assumption)
        have q180 : x5_1 < (l0.length : Int) := of_decide_eq_true (by first | (with_reducible assumption) | assumption)
        obtain ⟨ad180, A180_2, c180_2, e180, hx180_0, hx180_1, hx180_2, hl180_2, hi180_2⟩ := at_T105 HR0.out x5_1 p180 q180
        have hw180_2 := hx180_2
        have hw180_1 := hx180_1
        have hw180_0 := hx180_0
        cases e180
        replace hx180_0 := (HB.out.cell (World.block_lt_of_cell? w _ hx180_0)).trans hx180_0
        replace hx180_1 := (HB.out.cell (World.block_lt_of_cell? w _ hx180_1)).trans hx180_1
        replace hx180_2 := (HB.out.cell (World.block_lt_of_cell? w _ hx180_2)).trans hx180_2
        have HR180_2 := Aside0.mk hi180_2
        have HC180_2 := Aside0.mk hl180_2
        clear hi180_2 hl180_2
        replace p180 := eq_true p180
        replace q180 := eq_true q180
        have p181 : 0 ≤ (x5_1 : Int) := of_decide_eq_true (by first | (with_reducible assumption) | assumption)
        have q181 : x5_1 < (l1.length : Int) := of_decide_eq_true (by first | (with_reducible assumption) | assumption)
        obtain ⟨ad181, A181_2, c181_2, e181, hx181_0, hx181_1, hx181_2, hl181_2, hi181_2⟩ := at_T105 HR1.out x5_1 p181 q181
        have hw181_2 := hx181_2
        have hw181_1 := hx181_1
        have hw181_0 := hx181_0
        cases e181
        replace hx181_0 := (HB.out.cell (World.block_lt_of_cell? w _ hx181_0)).trans hx181_0
        replace hx181_1 := (HB.out.cell (World.block_lt_of_cell? w _ hx181_1)).trans hx181_1
        replace hx181_2 := (HB.out.cell (World.block_lt_of_cell? w _ hx181_2)).trans hx181_2
        have HR181_2 := Aside0.mk hi181_2
        have HC181_2 := Aside0.mk hl181_2
        clear hi181_2 hl181_2
        replace p181 := eq_true p181
        replace q181 := eq_true q181
        refine start_ (n := 10) (S := fun w' => w'.cell? (ad180.add ((x5_1).toNat * 3)) = some (.string ((rd_T105 l0 x5_1).f0)) ∧ w'.cell? ⟨(ad180.add ((x5_1).toNat * 3)).block, (ad180.add ((x5_1).toNat * 3)).off + 1, none⟩ = some (.int .i64 ((rd_T105 l0 x5_1).f1.f0)) ∧ w'.cell? ⟨(ad180.add ((x5_1).toNat * 3)).block, (ad180.add ((x5_1).toNat * 3)).off + 2, none⟩ = some (.slice A180_2 ((rd_T105 l0 x5_1).f1.f1).length c180_2) ∧ w'.cell? (ad181.add ((x5_1).toNat * 3)) = some (.string ((rd_T105 l1 x5_1).f0)) ∧ w'.cell? ⟨(ad181.add ((x5_1).toNat * 3)).block, (ad181.add ((x5_1).toNat * 3)).off + 1, none⟩ = some (.int .i64 ((rd_T105 l1 x5_1).f1.f0)) ∧ w'.cell? ⟨(ad181.add ((x5_1).toNat * 3)).block, (ad181.add ((x5_1).toNat * 3)).off + 2, none⟩ = some (.slice A181_2 ((rd_T105 l1 x5_1).f1.f1).length c181_2)) (ds := []) (tf 0 10) (by kernel_rfl) rfl rfl ⟨((HB.out.cell (World.block_lt_of_cell? w _ hw180_0)).trans hw180_0), ((HB.out.cell (World.block_lt_of_cell? w _ hw180_1)).trans hw180_1), ((HB.out.cell (World.block_lt_of_cell? w _ hw180_2)).trans hw180_2), ((HB.out.cell (World.block_lt_of_cell? w _ hw181_0)).trans hw181_0), ((HB.out.cell (World.block_lt_of_cell? w _ hw181_1)).trans hw181_1), ((HB.out.cell (World.block_lt_of_cell? w _ hw181_2)).trans hw181_2)⟩ (fun hHeld => ?_); refine with_tabW laws_eqRelS.tab6 laws_eqRelS.bits6 (fun HT_ HW_ => ?_)
        generalize wr.drew = w9 at HB HR180_2 HR181_2 hx180_0 hx180_1 hx180_2 hx181_0 hx181_1 hx181_2 hHeld ⊢
        iterate 3 (refine pl_ ?_)
        refine plx_ 4 #[true, true, true, false, true, false, false, false, false, false] ?_
        refine plx_ 5 #[true, true, true, false, true, true, false, false, false, false] ?_
        refine plx_ 6 #[true, true, true, false, true, true, true, false, false, false] ?_
        refine tlx_ 3 (tf 7 3) ?_
        refine tl_ ?_
        refine one_ (i := 8) (N := some 25) (tf 9 1) rfl rfl (one_of HT_.out (by kernel_rfl)) (by decide) (fun K hK => ?_)
        refine gs_ Try.func80 #[.agg #[.string ((rd_T105 l0 x5_1).f0), .int .i64 ((rd_T105 l0 x5_1).f1.f0), .slice A180_2 ((rd_T105 l0 x5_1).f1.f1).length c180_2], .agg #[.string ((rd_T105 l1 x5_1).f0), .int .i64 ((rd_T105 l1 x5_1).f1.f0), .slice A181_2 ((rd_T105 l1 x5_1).f1.f1).length c181_2]] ?_
        with_reducible refine (laws_eqRel.calls k1 ((rd_T105 l0 x5_1).f0) ((rd_T105 l0 x5_1).f1.f0) _ _ ((rd_T105 l0 x5_1).f1.f1) ((rd_T105 l1 x5_1).f0) ((rd_T105 l1 x5_1).f1.f0) _ _ ((rd_T105 l1 x5_1).f1.f1) true _ ?side1 ?side2 ?side3 ?side4 A7.out).mono ?_
        (case side1 => exact ck_ (Kd.C_below HR180_2.out HB.out))
        (case side2 => exact HC180_2.out)
        (case side3 => exact ck_ (Kd.C_below HR181_2.out HB.out))
        (case side4 => exact HC181_2.out)
        rintro e w10 ⟨rfl, hb⟩
        refine ⟨_, rfl, ?_⟩
        replace HB := bs_ hb
        (try clear hb)
        (try clear hb2)
        (try clear hk)
        (try clear hi)
        refine hK.out _ _ ⟨((HB.out.cell (World.block_lt_of_cell? w _ hw180_0)).trans hw180_0), ((HB.out.cell (World.block_lt_of_cell? w _ hw180_1)).trans hw180_1), ((HB.out.cell (World.block_lt_of_cell? w _ hw180_2)).trans hw180_2), ((HB.out.cell (World.block_lt_of_cell? w _ hw181_0)).trans hw181_0), ((HB.out.cell (World.block_lt_of_cell? w _ hw181_1)).trans hw181_1), ((HB.out.cell (World.block_lt_of_cell? w _ hw181_2)).trans hw181_2)⟩ (fun hHeld => ?_)
        clear hK K
        refine nm_ ?_
        refine plx_ 9 (tf 10 0) ?_
        refine done_ (done_of HT_.out (by kernel_rfl)) ?_
        try go_wp2
        go_roundg k1
        case measure => have := HK1.out; omega
        case rel => exact ⟨(wrap64 (x5_1 + 1)), (by first | rfl | (simp; done) | (simp [*]; done)), H', ⟨by have := HK1.out; omega⟩, ⟨by repeat (first | (with_reducible first | exact HB.out | apply below_alloc | apply pw_below_drewN | apply below_drew1) | exact HB.out)⟩⟩
       ·replace c8 := Bool.eq_false_iff.mpr c8
        subst c8
        have H1 : (some false) = some r := by rw [if_neg (show ¬ (false = true) by decide)] at H; exact H
        clear H
        have H := H1
        clear H1
        obtain rfl := Option.some.inj H
        try go_wp2
        replace HB := Aside0.mk (below_drew1 HB.out)
        have p180 : 0 ≤ (x5_1 : Int) := of_decide_eq_true (by first | (with_reducible assumption) | assumption)
        have q180 : x5_1 < (l0.length : Int) := of_decide_eq_true (by first | (with_reducible assumption) | assumption)
        obtain ⟨ad180, A180_2, c180_2, e180, hx180_0, hx180_1, hx180_2, hl180_2, hi180_2⟩ := at_T105 HR0.out x5_1 p180 q180
        have hw180_2 := hx180_2
        have hw180_1 := hx180_1
        have hw180_0 := hx180_0
        cases e180
        replace hx180_0 := (HB.out.cell (World.block_lt_of_cell? w _ hx180_0)).trans hx180_0
        replace hx180_1 := (HB.out.cell (World.block_lt_of_cell? w _ hx180_1)).trans hx180_1
        replace hx180_2 := (HB.out.cell (World.block_lt_of_cell? w _ hx180_2)).trans hx180_2
        have HR180_2 := Aside0.mk hi180_2
        have HC180_2 := Aside0.mk hl180_2
        clear hi180_2 hl180_2
        replace p180 := eq_true p180
        replace q180 := eq_true q180
        have p181 : 0 ≤ (x5_1 : Int) := of_decide_eq_true (by first | (with_reducible assumption) | assumption)
        have q181 : x5_1 < (l1.length : Int) := of_decide_eq_true (by first | (with_reducible assumption) | assumption)
        obtain ⟨ad181, A181_2, c181_2, e181, hx181_0, hx181_1, hx181_2, hl181_2, hi181_2⟩ := at_T105 HR1.out x5_1 p181 q181
        have hw181_2 := hx181_2
        have hw181_1 := hx181_1
        have hw181_0 := hx181_0
        cases e181
        replace hx181_0 := (HB.out.cell (World.block_lt_of_cell? w _ hx181_0)).trans hx181_0
        replace hx181_1 := (HB.out.cell (World.block_lt_of_cell? w _ hx181_1)).trans hx181_1
        replace hx181_2 := (HB.out.cell (World.block_lt_of_cell? w _ hx181_2)).trans hx181_2
        have HR181_2 := Aside0.mk hi181_2
        have HC181_2 := Aside0.mk hl181_2
        clear hi181_2 hl181_2
        replace p181 := eq_true p181
        replace q181 := eq_true q181
        refine start_ (n := 10) (S := fun w' => w'.cell? (ad180.add ((x5_1).toNat * 3)) = some (.string ((rd_T105 l0 x5_1).f0)) ∧ w'.cell? ⟨(ad180.add ((x5_1).toNat * 3)).block, (ad180.add ((x5_1).toNat * 3)).off + 1, none⟩ = some (.int .i64 ((rd_T105 l0 x5_1).f1.f0)) ∧ w'.cell? ⟨(ad180.add ((x5_1).toNat * 3)).block, (ad180.add ((x5_1).toNat * 3)).off + 2, none⟩ = some (.slice A180_2 ((rd_T105 l0 x5_1).f1.f1).length c180_2) ∧ w'.cell? (ad181.add ((x5_1).toNat * 3)) = some (.string ((rd_T105 l1 x5_1).f0)) ∧ w'.cell? ⟨(ad181.add ((x5_1).toNat * 3)).block, (ad181.add ((x5_1).toNat * 3)).off + 1, none⟩ = some (.int .i64 ((rd_T105 l1 x5_1).f1.f0)) ∧ w'.cell? ⟨(ad181.add ((x5_1).toNat * 3)).block, (ad181.add ((x5_1).toNat * 3)).off + 2, none⟩ = some (.slice A181_2 ((rd_T105 l1 x5_1).f1.f1).length c181_2)) (ds := []) (tf 0 10) (by kernel_rfl) rfl rfl ⟨((HB.out.cell (World.block_lt_of_cell? w _ hw180_0)).trans hw180_0), ((HB.out.cell (World.block_lt_of_cell? w _ hw180_1)).trans hw180_1), ((HB.out.cell (World.block_lt_of_cell? w _ hw180_2)).trans hw180_2), ((HB.out.cell (World.block_lt_of_cell? w _ hw181_0)).trans hw181_0), ((HB.out.cell (World.block_lt_of_cell? w _ hw181_1)).trans hw181_1), ((HB.out.cell (World.block_lt_of_cell? w _ hw181_2)).trans hw181_2)⟩ (fun hHeld => ?_); refine with_tabW laws_eqRelS.tab6 laws_eqRelS.bits6 (fun HT_ HW_ => ?_)
        generalize wr.drew = w11 at HB HR180_2 HR181_2 hx180_0 hx180_1 hx180_2 hx181_0 hx181_1 hx181_2 hHeld ⊢
        iterate 3 (refine pl_ ?_)
        refine plx_ 4 #[true, true, true, false, true, false, false, false, false, false] ?_
        refine plx_ 5 #[true, true, true, false, true, true, false, false, false, false] ?_
        refine plx_ 6 #[true, true, true, false, true, true, true, false, false, false] ?_
        refine tlx_ 3 (tf 7 3) ?_
        refine tl_ ?_
        refine one_ (i := 8) (N := some 25) (tf 9 1) rfl rfl (one_of HT_.out (by kernel_rfl)) (by decide) (fun K hK => ?_)
        refine gs_ Try.func80 #[.agg #[.string ((rd_T105 l0 x5_1).f0), .int .i64 ((rd_T105 l0 x5_1).f1.f0), .slice A180_2 ((rd_T105 l0 x5_1).f1.f1).length c180_2], .agg #[.string ((rd_T105 l1 x5_1).f0), .int .i64 ((rd_T105 l1 x5_1).f1.f0), .slice A181_2 ((rd_T105 l1 x5_1).f1.f1).length c181_2]] ?_
        with_reducible refine (laws_eqRel.calls k1 ((rd_T105 l0 x5_1).f0) ((rd_T105 l0 x5_1).f1.f0) _ _ ((rd_T105 l0 x5_1).f1.f1) ((rd_T105 l1 x5_1).f0) ((rd_T105 l1 x5_1).f1.f0) _ _ ((rd_T105 l1 x5_1).f1.f1) false _ ?side1 ?side2 ?side3 ?side4 A7.out).mono ?_
        (case side1 => exact ck_ (Kd.C_below HR180_2.out HB.out))
        (case side2 => exact HC180_2.out)
        (case side3 => exact ck_ (Kd.C_below HR181_2.out HB.out))
        (case side4 => exact HC181_2.out)
        rintro e w12 ⟨rfl, hb⟩
        refine ⟨_, rfl, ?_⟩
        replace HB := bs_ hb
        (try clear hb)
        (try clear hb2)
        (try clear hk)
        (try clear hi)
        refine hK.out _ _ ⟨((HB.out.cell (World.block_lt_of_cell? w _ hw180_0)).trans hw180_0), ((HB.out.cell (World.block_lt_of_cell? w _ hw180_1)).trans hw180_1), ((HB.out.cell (World.block_lt_of_cell? w _ hw180_2)).trans hw180_2), ((HB.out.cell (World.block_lt_of_cell? w _ hw181_0)).trans hw181_0), ((HB.out.cell (World.block_lt_of_cell? w _ hw181_1)).trans hw181_1), ((HB.out.cell (World.block_lt_of_cell? w _ hw181_2)).trans hw181_2)⟩ (fun hHeld => ?_)
        clear hK K
        refine nm_ ?_
        refine plx_ 9 (tf 10 0) ?_
        refine done_ (done_of HT_.out (by kernel_rfl)) ?_
        try go_wp2
        go_ret
        exact ⟨er_, bb_⟩
      ·rw [if_neg c6] at H
       exact absurd H (by simp)
     ·rw [if_neg c5] at H
      exact absurd H (by simp)
    ·rw [if_neg c4] at H
     have c4b0 : decide (x5_1 < (l0.length : Int)) = false := decide_eq_false c4
     clear c4
     obtain rfl := Option.some.inj H
     go_wp2
     go_ret
     exact ⟨er_, bb_⟩
 ·rw [if_neg c3] at H
  have c3b0 : ((l0.length : Int) == (l1.length : Int)) = false := beq_eq_false_iff_ne.mpr c3
  have c3b1 : ((l0.length : Int) != (l1.length : Int)) = true := bne_iff_ne.mpr c3
  have c3b2 : (l0.length == l1.length) = false := by first | simpa using c3 | (simp at c3 ⊢; omega)
  obtain rfl := Option.some.inj H
  go_enter Try.func36, Try.ntmps36
  go_wp2
  go_ret
  exact ⟨er_, bb_⟩

/-! ### spec_CompareValue: function 84 -/
-- by hand
theorem gtr_str (t : TypeId) (a b : ByteArray) : binOp .gtr t (.string a) (.string b) = pure (.bool !(Op.bytesLess a.toList b.toList || a.toList == b.toList)) := by simp [binOp, Op.stringOp]
attribute [local go_sem] gtr_str
/-- The order of values, as the reference tells it. -/
def cmpV (a b : Int) (s : ByteArray) (a' b' : Int) (s' : ByteArray) : Int :=
  if a < a' then -1 else if a' < a then 1 else if b < b' then -1 else if b' < b then 1 else if Op.bytesLess s.toList s'.toList = true then -1 else if (Op.bytesLess s.toList s'.toList || s.toList == s'.toList) = true then 0 else 1
def spec_CompareValue.f (a0_0 : Int) (a0_1 : Int) (a0_2 : ByteArray) (a1_0 : Int) (a1_1 : Int) (a1_2 : ByteArray) : Option Int := some (cmpV a0_0 a0_1 a0_2 a1_0 a1_1 a1_2)
theorem ret_intc {k : IntKind} {a b : Int} (h : a = b) : Ending.returned (.int k b) = .returned (.int k a) := by rw [h]
set_option maxRecDepth 100000 in
theorem spec_CompareValue.calls (a0_0 : Int) (a0_1 : Int) (a0_2 : ByteArray) (a1_0 : Int) (a1_1 : Int) (a1_2 : ByteArray) (r : Int) (w : World) (h : spec_CompareValue.f a0_0 a0_1 a0_2 a1_0 a1_1 a1_2 = some r) :
    Calls Try.prog 84 #[.agg #[.int .i64 a0_0, .int .i64 a0_1, .string a0_2], .agg #[.int .i64 a1_0, .int .i64 a1_1, .string a1_2]] w fun e w' => e = .returned (.int .i64 r) ∧ Below w.heap.size w w' := by
  have hu := Try.underlying29
  unfold spec_CompareValue.f at h
  replace h := Option.some.inj h
  unfold cmpV at h
  by_cases h1 : a0_0 < a1_0
  · rw [if_pos h1] at h
    subst h
    have d1 : decide (a0_0 < a1_0) = true := decide_eq_true h1
    clear h1
    go_enter Try.func84, Try.ntmps84
    go_wp2
    go_ret
    exact ⟨rfl, ((Below.refl _ _).alloc (Nat.le_refl _) _).alloc (by simp) _⟩
  rw [if_neg h1] at h
  have d1 : decide (a0_0 < a1_0) = false := decide_eq_false h1
  clear h1
  by_cases h2 : a1_0 < a0_0
  · rw [if_pos h2] at h
    subst h
    have d2 : decide (a1_0 < a0_0) = true := decide_eq_true h2
    clear h2
    go_enter Try.func84, Try.ntmps84
    go_wp2
    go_ret
    exact ⟨rfl, ((Below.refl _ _).alloc (Nat.le_refl _) _).alloc (by simp) _⟩
  rw [if_neg h2] at h
  have d2 : decide (a1_0 < a0_0) = false := decide_eq_false h2
  clear h2
  by_cases h3 : a0_1 < a1_1
  · rw [if_pos h3] at h
    subst h
    have d3 : decide (a0_1 < a1_1) = true := decide_eq_true h3
    clear h3
    go_enter Try.func84, Try.ntmps84
    go_wp2
    go_ret
    exact ⟨rfl, ((Below.refl _ _).alloc (Nat.le_refl _) _).alloc (by simp) _⟩
  rw [if_neg h3] at h
  have d3 : decide (a0_1 < a1_1) = false := decide_eq_false h3
  clear h3
  by_cases h4 : a1_1 < a0_1
  · rw [if_pos h4] at h
    subst h
    have d4 : decide (a1_1 < a0_1) = true := decide_eq_true h4
    clear h4
    go_enter Try.func84, Try.ntmps84
    go_wp2
    go_ret
    exact ⟨rfl, ((Below.refl _ _).alloc (Nat.le_refl _) _).alloc (by simp) _⟩
  rw [if_neg h4] at h
  have d4 : decide (a1_1 < a0_1) = false := decide_eq_false h4
  clear h4
  by_cases h5 : Op.bytesLess a0_2.toList a1_2.toList = true
  · rw [if_pos h5] at h
    subst h
    go_enter Try.func84, Try.ntmps84
    go_wp2
    go_ret
    exact ⟨rfl, ((Below.refl _ _).alloc (Nat.le_refl _) _).alloc (by simp) _⟩
  rw [if_neg h5] at h
  have d5 : Op.bytesLess a0_2.toList a1_2.toList = false := by simpa using h5
  clear h5
  rw [d5, Bool.false_or] at h
  by_cases h6 : (a0_2.toList == a1_2.toList) = true
  · rw [if_pos h6] at h
    subst h
    go_enter Try.func84, Try.ntmps84
    go_wp2
    go_ret
    exact ⟨rfl, ((Below.refl _ _).alloc (Nat.le_refl _) _).alloc (by simp) _⟩
  · rw [if_neg h6] at h
    subst h
    have d6 : (a0_2.toList == a1_2.toList) = false := by simpa using h6
    clear h6
    go_enter Try.func84, Try.ntmps84
    go_wp2
    go_ret
    exact ⟨rfl, ((Below.refl _ _).alloc (Nat.le_refl _) _).alloc (by simp) _⟩


end Go.Proofs.Ytmkllhkhiefbnaa.PFnExactDbOk
