-- WRITTEN BY xprint.py, a program of this session over the kit's printer: by nobody's hand
-- PRESSED
import Derived.Test.YtapgfamppnhnmaaPress
import Derived.Test.YtapgfamppnhnmaaPFnExactChangeOkx0
import Derived.Test.YtapgfamppnhnmaaPFnExactChangeOkx1
namespace Go.Proofs.Ytapgfamppnhnmaa.PFnExactChangeOk
set_option maxRecDepth 100000
open Go.RowKit Go.Proofs.YtapgfamppnhnmaaW.PrintWords Go.Proofs.YtapgfamppnhnmaaW.PrintLast Go.Proofs.YtapgfamppnhnmaaW.PrintMore
attribute [local go_sem] max2_int min2_int max_two min_two max_three min_three max_four min_four   -- for this text's walks alone
set_option linter.unusedVariables false
set_option linter.unusedSimpArgs false

/-! ### spec_CompareRow: function 75 -/
mutual
def spec_CompareRow.l0 : Nat → List (S25) → List (S25) → Int → Option (Int)
 | 0, _, _, _ => none
 | k + 1, x0, x1, x5 => if x5 < (x0.length : Int) then (spec_CompareRow.j1 k x0 x1 x5 (decide (x5 < (x1.length : Int)))) else (spec_CompareRow.j1 k x0 x1 x5 false)
def spec_CompareRow.j1 : Nat → List (S25) → List (S25) → Int → Bool → Option (Int)
 | 0, _, _, _, _ => none
 | k + 1, x0, x1, x5, x16 => if x16 = true then (if 0 ≤ x5 then (if x5 < (x0.length : Int) then (if x5 < (x1.length : Int) then ((spec_CompareValue.f ((rd_T25 x0 x5).f0) ((rd_T25 x0 x5).f1) ((rd_T25 x0 x5).f2) ((rd_T25 x1 x5).f0) ((rd_T25 x1 x5).f1) ((rd_T25 x1 x5).f2)).bind fun t116 => (if t116 = 0 then (spec_CompareRow.l0 k x0 x1 (wrap64 (x5 + 1))) else (some t116))) else (none)) else (none)) else (none)) else (if (x0.length : Int) < (x1.length : Int) then (some (-1)) else (if (x0.length : Int) > (x1.length : Int) then (some 1) else (some 0)))
end
def spec_CompareRow.f (k : Nat) (l0 : List (S25)) (l1 : List (S25)) : Option (Int) := spec_CompareRow.l0 k l0 l1 0
def spec_CompareRow.T4 : Bool × List (List Nat × List Nat) := (true, [([], []), ([], []), ([0, 1], [0, 1]), ([2], [2]), ([], []), ([], []), ([4, 5], [4, 5]), ([6], [6]), ([3, 7], [3, 7]), ([8, 8, 0, 1, 2, 3, 4, 5, 6, 7, 8], [8])])
def spec_CompareRow.B4 : List Nat := [0, 0, 3, 7, 0, 0, 48, 112, 255, 511]
theorem spec_CompareRow.tab4 : rtab .any (opsOf Try.f75 4) = spec_CompareRow.T4 := by kernel_rfl
theorem spec_CompareRow.bits4 : waitsOk spec_CompareRow.T4.2 spec_CompareRow.B4 = true := by kernel_rfl
set_option maxHeartbeats 8000000 in
theorem spec_CompareRow.calls (k : Nat) (A0 : Option Addr) (c0 : Nat) (l0 : List (S25)) (A1 : Option Addr) (c1 : Nat) (l1 : List (S25)) (r : Int) (w : World) (hr0 : Kd.C k25 w A0 l0.length l0) (hc0 : l0.length ≤ c0) (hr1 : Kd.C k25 w A1 l1.length l1) (hc1 : l1.length ≤ c1) (h : spec_CompareRow.f k l0 l1 = some r) :
  Calls Try.prog 75 #[.slice A0 l0.length c0, .slice A1 l1.length c1] w fun e w' => e = .returned (.int .i64 r) ∧ Below w.heap.size w w' := by
 have hu25 := Try.underlying25
 have HR0 := Aside0.mk hr0
 have HC0 := Aside0.mk hc0
 clear hr0 hc0
 have HR1 := Aside0.mk hr1
 have HC1 := Aside0.mk hc1
 clear hr1 hc1
 have HB := Aside0.mk (Below.refl w.heap.size w)
 have H : (spec_CompareRow.l0 k l0 l1 0) = some r := h
 clear h
 have H' := Aside0.mk H
 clear H
 go_enter Try.func75, Try.ntmps75
 go_wp2
 go_loopg [5] k (fun kq v5 w' => ∃ (x5_1 : Int), v5 = .int .i64 x5_1 ∧ Aside0 (spec_CompareRow.l0 kq l0 l1 x5_1 = some r) ∧ Aside0 (kq ≤ k) ∧ Aside0 (Below w.heap.size w w'))
 case atStart => exact ⟨(0), rs_, H', ⟨Nat.le_refl _⟩, ⟨bb_⟩⟩
 case round =>
  clear H'
  try clear c1
  try clear p2
  obtain ⟨x5_1, rfl, HA, HK1, HB⟩ := hrel
  cases gk with
  | zero => exact absurd HA.out (by simp [spec_CompareRow.l0])
  | succ k1 =>
   have H := HA.out
   clear HA
   simp only [spec_CompareRow.l0] at H
   have HC3 := Aside0.mk H
   clear H
   go_upto_region 2 with (fail)
   go_cut [16] (fun v16 wc => ∃ (kq : Nat) (x16_2 : Bool), v16 = .bool x16_2 ∧ Aside0 (spec_CompareRow.j1 kq l0 l1 x5_1 x16_2 = some r) ∧ Aside0 (kq ≤ k1) ∧ Aside0 (Below w.heap.size w wc))
   case first =>
    have H := HC3.out
    clear HC3
    by_cases c4 : x5_1 < (l0.length : Int)
    ·rw [if_pos c4] at H
     have c4b0 : decide (x5_1 < (l0.length : Int)) = true := decide_eq_true c4
     clear c4
     (first | rw [c4b0] | (simp only [i64_w, i32_w]; rw [c4b0]) | skip)
     have H' := Aside0.mk H
     clear H
     go_wp2
     go_meet
     case rel => exact ⟨_, (decide (x5_1 < (l1.length : Int))), rs_, H', ⟨by have := HK1.out; first | omega | exact Nat.le_refl _⟩, ⟨bb_⟩⟩
    ·rw [if_neg c4] at H
     have c4b0 : decide (x5_1 < (l0.length : Int)) = false := decide_eq_false c4
     clear c4
     (first | rw [c4b0] | (simp only [i64_w, i32_w]; rw [c4b0]) | skip)
     have H' := Aside0.mk H
     clear H
     go_wp2
     go_meet
     case rel => exact ⟨_, (false), rs_, H', ⟨by have := HK1.out; first | omega | exact Nat.le_refl _⟩, ⟨bb_⟩⟩
   case rest =>
    clear HC3
    try clear c1
    try clear p2
    try clear c4
    try clear c4b0
    try clear p2
    obtain ⟨kq, x16_2, rfl, HA, HJ2, HB⟩ := hcut
    cases kq with
    | zero => exact absurd HA.out (by simp [spec_CompareRow.j1])
    | succ kj2 =>
     have H := HA.out
     clear HA
     simp only [spec_CompareRow.j1] at H
     by_cases c5 : x16_2 = true
     ·subst c5
      have H1 : (if 0 ≤ x5_1 then (if x5_1 < (l0.length : Int) then (if x5_1 < (l1.length : Int) then ((spec_CompareValue.f ((rd_T25 l0 x5_1).f0) ((rd_T25 l0 x5_1).f1) ((rd_T25 l0 x5_1).f2) ((rd_T25 l1 x5_1).f0) ((rd_T25 l1 x5_1).f1) ((rd_T25 l1 x5_1).f2)).bind fun t116 => (if t116 = 0 then (spec_CompareRow.l0 kj2 l0 l1 (wrap64 (x5_1 + 1))) else (some t116))) else (none)) else (none)) else (none)) = some r := by rw [if_pos rfl] at H; exact H
      clear H
      have H := H1
      clear H1
      by_cases c6 : 0 ≤ x5_1
      ·rw [if_pos c6] at H
       have c6b0 : decide (0 ≤ x5_1) = true := decide_eq_true c6
       clear c6
       by_cases c7 : x5_1 < (l0.length : Int)
       ·rw [if_pos c7] at H
        have c7b0 : decide (x5_1 < (l0.length : Int)) = true := decide_eq_true c7
        clear c7
        by_cases c8 : x5_1 < (l1.length : Int)
        ·rw [if_pos c8] at H
         have c8b0 : decide (x5_1 < (l1.length : Int)) = true := decide_eq_true c8
         clear c8
         replace H := Option.bind_eq_some_iff.mp H
         obtain ⟨t116, A90, H⟩ := H
         replace H : (if t116 = 0 then (spec_CompareRow.l0 kj2 l0 l1 (wrap64 (x5_1 + 1))) else (some t116)) = some r := H
         have A9 := Aside0.mk A90
         clear A90
         by_cases c10 : t116 = 0
         ·rw [if_pos c10] at H
          have c10b0 : (t116 == 0) = true := beq_iff_eq.mpr c10
          have c10b1 : (t116 != 0) = false := bne_eq_false_iff_eq.mpr c10
          clear c10
          have H' := Aside0.mk H
          clear H
          try go_wp2
          replace HB := Aside0.mk (below_drew1 HB.out)
          have p114 : 0 ≤ (x5_1 : Int) := od_
          have q114 : x5_1 < (l0.length : Int) := od_
          obtain ⟨ad114, e114, hx114_0, hx114_1, hx114_2⟩ := at_T25 HR0.out x5_1 p114 q114
          have hw114_2 := hx114_2
          have hw114_1 := hx114_1
          have hw114_0 := hx114_0
          cases e114
          replace hx114_0 := hb_ HB hx114_0
          replace hx114_1 := hb_ HB hx114_1
          replace hx114_2 := hb_ HB hx114_2
          replace p114 := eq_true p114
          replace q114 := eq_true q114
          have p115 : 0 ≤ (x5_1 : Int) := od_
          have q115 : x5_1 < (l1.length : Int) := od_
          obtain ⟨ad115, e115, hx115_0, hx115_1, hx115_2⟩ := at_T25 HR1.out x5_1 p115 q115
          have hw115_2 := hx115_2
          have hw115_1 := hx115_1
          have hw115_0 := hx115_0
          cases e115
          replace hx115_0 := hb_ HB hx115_0
          replace hx115_1 := hb_ HB hx115_1
          replace hx115_2 := hb_ HB hx115_2
          replace p115 := eq_true p115
          replace q115 := eq_true q115
          refine start_ (n := 10) (S := fun w' => w'.cell? (ad114.add ((x5_1).toNat * 3)) = some (.int .i64 ((rd_T25 l0 x5_1).f0)) ∧ w'.cell? ⟨(ad114.add ((x5_1).toNat * 3)).block, (ad114.add ((x5_1).toNat * 3)).off + 1, none⟩ = some (.int .i64 ((rd_T25 l0 x5_1).f1)) ∧ w'.cell? ⟨(ad114.add ((x5_1).toNat * 3)).block, (ad114.add ((x5_1).toNat * 3)).off + 2, none⟩ = some (.string ((rd_T25 l0 x5_1).f2)) ∧ w'.cell? (ad115.add ((x5_1).toNat * 3)) = some (.int .i64 ((rd_T25 l1 x5_1).f0)) ∧ w'.cell? ⟨(ad115.add ((x5_1).toNat * 3)).block, (ad115.add ((x5_1).toNat * 3)).off + 1, none⟩ = some (.int .i64 ((rd_T25 l1 x5_1).f1)) ∧ w'.cell? ⟨(ad115.add ((x5_1).toNat * 3)).block, (ad115.add ((x5_1).toNat * 3)).off + 2, none⟩ = some (.string ((rd_T25 l1 x5_1).f2))) (ds := []) (tf 0 10) (by kernel_rfl) rfl rfl ⟨(hb_ HB hw114_0), (hb_ HB hw114_1), (hb_ HB hw114_2), (hb_ HB hw115_0), (hb_ HB hw115_1), (hb_ HB hw115_2)⟩ (fun hHeld => ?_); refine with_tabW spec_CompareRow.tab4 spec_CompareRow.bits4 (fun HT_ HW_ => ?_)
          generalize wc.drew = w11 at HB hx114_0 hx114_1 hx114_2 hx115_0 hx115_1 hx115_2 hHeld ⊢
          iterate 3 (refine pl_ ?_)
          refine plx_ 4 #[true, true, true, false, true, false, false, false, false, false] ?_
          refine plx_ 5 #[true, true, true, false, true, true, false, false, false, false] ?_
          refine plx_ 6 #[true, true, true, false, true, true, true, false, false, false] ?_
          refine tlx_ 3 (tf 7 3) ?_
          refine tl_ ?_
          refine one_ (i := 8) (N := some 27) (tf 9 1) rfl rfl (one_of HT_.out (by kernel_rfl)) (by decide) (fun K hK => ?_)
          refine gs_ Try.func109 #[.agg #[.int .i64 ((rd_T25 l0 x5_1).f0), .int .i64 ((rd_T25 l0 x5_1).f1), .string ((rd_T25 l0 x5_1).f2)], .agg #[.int .i64 ((rd_T25 l1 x5_1).f0), .int .i64 ((rd_T25 l1 x5_1).f1), .string ((rd_T25 l1 x5_1).f2)]] ?_
          with_reducible refine (spec_CompareValue.calls ((rd_T25 l0 x5_1).f0) ((rd_T25 l0 x5_1).f1) ((rd_T25 l0 x5_1).f2) ((rd_T25 l1 x5_1).f0) ((rd_T25 l1 x5_1).f1) ((rd_T25 l1 x5_1).f2) t116 _ A9.out).mono ?_
          rintro e w12 ⟨rfl, hb⟩
          refine ⟨_, rfl, ?_⟩
          replace HB := bs_ hb
          (try clear hb)
          (try clear hb2)
          (try clear hk)
          (try clear hi)
          refine hK.out _ _ ⟨(have h_ := hb_ HB hw114_0; h_), (have h_ := hb_ HB hw114_1; h_), (have h_ := hb_ HB hw114_2; h_), (have h_ := hb_ HB hw115_0; h_), (have h_ := hb_ HB hw115_1; h_), (have h_ := hb_ HB hw115_2; h_)⟩ (fun hHeld => ?_)
          clear hK K
          refine nm_ ?_
          refine plx_ 9 (tf 10 0) ?_
          refine done_ (done_of HT_.out (by kernel_rfl)) ?_
          try go_wp2
          go_roundg kj2
          case measure => have := HK1.out; have := HJ2.out; omega
          case rel => exact ⟨(wrap64 (x5_1 + 1)), rs_, H', ⟨by have := HK1.out; have := HJ2.out; omega⟩, ⟨bb_⟩⟩
         ·rw [if_neg c10] at H
          have c10b0 : (t116 == 0) = false := beq_eq_false_iff_ne.mpr c10
          have c10b1 : (t116 != 0) = true := bne_iff_ne.mpr c10
          obtain rfl := Option.some.inj H
          try go_wp2
          replace HB := Aside0.mk (below_drew1 HB.out)
          have p114 : 0 ≤ (x5_1 : Int) := od_
          have q114 : x5_1 < (l0.length : Int) := od_
          obtain ⟨ad114, e114, hx114_0, hx114_1, hx114_2⟩ := at_T25 HR0.out x5_1 p114 q114
          have hw114_2 := hx114_2
          have hw114_1 := hx114_1
          have hw114_0 := hx114_0
          cases e114
          replace hx114_0 := hb_ HB hx114_0
          replace hx114_1 := hb_ HB hx114_1
          replace hx114_2 := hb_ HB hx114_2
          replace p114 := eq_true p114
          replace q114 := eq_true q114
          have p115 : 0 ≤ (x5_1 : Int) := od_
          have q115 : x5_1 < (l1.length : Int) := od_
          obtain ⟨ad115, e115, hx115_0, hx115_1, hx115_2⟩ := at_T25 HR1.out x5_1 p115 q115
          have hw115_2 := hx115_2
          have hw115_1 := hx115_1
          have hw115_0 := hx115_0
          cases e115
          replace hx115_0 := hb_ HB hx115_0
          replace hx115_1 := hb_ HB hx115_1
          replace hx115_2 := hb_ HB hx115_2
          replace p115 := eq_true p115
          replace q115 := eq_true q115
          refine start_ (n := 10) (S := fun w' => w'.cell? (ad114.add ((x5_1).toNat * 3)) = some (.int .i64 ((rd_T25 l0 x5_1).f0)) ∧ w'.cell? ⟨(ad114.add ((x5_1).toNat * 3)).block, (ad114.add ((x5_1).toNat * 3)).off + 1, none⟩ = some (.int .i64 ((rd_T25 l0 x5_1).f1)) ∧ w'.cell? ⟨(ad114.add ((x5_1).toNat * 3)).block, (ad114.add ((x5_1).toNat * 3)).off + 2, none⟩ = some (.string ((rd_T25 l0 x5_1).f2)) ∧ w'.cell? (ad115.add ((x5_1).toNat * 3)) = some (.int .i64 ((rd_T25 l1 x5_1).f0)) ∧ w'.cell? ⟨(ad115.add ((x5_1).toNat * 3)).block, (ad115.add ((x5_1).toNat * 3)).off + 1, none⟩ = some (.int .i64 ((rd_T25 l1 x5_1).f1)) ∧ w'.cell? ⟨(ad115.add ((x5_1).toNat * 3)).block, (ad115.add ((x5_1).toNat * 3)).off + 2, none⟩ = some (.string ((rd_T25 l1 x5_1).f2))) (ds := []) (tf 0 10) (by kernel_rfl) rfl rfl ⟨(hb_ HB hw114_0), (hb_ HB hw114_1), (hb_ HB hw114_2), (hb_ HB hw115_0), (hb_ HB hw115_1), (hb_ HB hw115_2)⟩ (fun hHeld => ?_); refine with_tabW spec_CompareRow.tab4 spec_CompareRow.bits4 (fun HT_ HW_ => ?_)
          generalize wc.drew = w13 at HB hx114_0 hx114_1 hx114_2 hx115_0 hx115_1 hx115_2 hHeld ⊢
          iterate 3 (refine pl_ ?_)
          refine plx_ 4 #[true, true, true, false, true, false, false, false, false, false] ?_
          refine plx_ 5 #[true, true, true, false, true, true, false, false, false, false] ?_
          refine plx_ 6 #[true, true, true, false, true, true, true, false, false, false] ?_
          refine tlx_ 3 (tf 7 3) ?_
          refine tl_ ?_
          refine one_ (i := 8) (N := some 27) (tf 9 1) rfl rfl (one_of HT_.out (by kernel_rfl)) (by decide) (fun K hK => ?_)
          refine gs_ Try.func109 #[.agg #[.int .i64 ((rd_T25 l0 x5_1).f0), .int .i64 ((rd_T25 l0 x5_1).f1), .string ((rd_T25 l0 x5_1).f2)], .agg #[.int .i64 ((rd_T25 l1 x5_1).f0), .int .i64 ((rd_T25 l1 x5_1).f1), .string ((rd_T25 l1 x5_1).f2)]] ?_
          with_reducible refine (spec_CompareValue.calls ((rd_T25 l0 x5_1).f0) ((rd_T25 l0 x5_1).f1) ((rd_T25 l0 x5_1).f2) ((rd_T25 l1 x5_1).f0) ((rd_T25 l1 x5_1).f1) ((rd_T25 l1 x5_1).f2) t116 _ A9.out).mono ?_
          rintro e w14 ⟨rfl, hb⟩
          refine ⟨_, rfl, ?_⟩
          replace HB := bs_ hb
          (try clear hb)
          (try clear hb2)
          (try clear hk)
          (try clear hi)
          refine hK.out _ _ ⟨(have h_ := hb_ HB hw114_0; h_), (have h_ := hb_ HB hw114_1; h_), (have h_ := hb_ HB hw114_2; h_), (have h_ := hb_ HB hw115_0; h_), (have h_ := hb_ HB hw115_1; h_), (have h_ := hb_ HB hw115_2; h_)⟩ (fun hHeld => ?_)
          clear hK K
          refine nm_ ?_
          refine plx_ 9 (tf 10 0) ?_
          refine done_ (done_of HT_.out (by kernel_rfl)) ?_
          try go_wp2
          go_ret
          exact ⟨er_, bb_⟩
        ·rw [if_neg c8] at H
         exact absurd H (by simp)
       ·rw [if_neg c7] at H
        exact absurd H (by simp)
      ·rw [if_neg c6] at H
       exact absurd H (by simp)
     ·replace c5 := Bool.eq_false_iff.mpr c5
      subst c5
      have H1 : (if (l0.length : Int) < (l1.length : Int) then (some (-1)) else (if (l0.length : Int) > (l1.length : Int) then (some 1) else (some 0))) = some r := by rw [if_neg (show ¬ (false = true) by decide)] at H; exact H
      clear H
      have H := H1
      clear H1
      by_cases c15 : (l0.length : Int) < (l1.length : Int)
      ·rw [if_pos c15] at H
       have c15b0 : decide ((l0.length : Int) < (l1.length : Int)) = true := decide_eq_true c15
       have c15b1 : decide (l0.length < l1.length) = true := decide_eq_true (Int.ofNat_lt.mp c15)
       clear c15
       obtain rfl := Option.some.inj H
       go_wp2
       go_ret
       exact ⟨er_, bb_⟩
      ·rw [if_neg c15] at H
       have c15b0 : decide ((l0.length : Int) < (l1.length : Int)) = false := decide_eq_false c15
       have c15b1 : decide (l0.length < l1.length) = false := decide_eq_false (fun h => c15 (Int.ofNat_lt.mpr h))
       clear c15
       by_cases c16 : (l0.length : Int) > (l1.length : Int)
       ·rw [if_pos c16] at H
        have c16b0 : decide ((l1.length : Int) < (l0.length : Int)) = true := decide_eq_true c16
        have c16b1 : decide (l1.length < l0.length) = true := decide_eq_true (Int.ofNat_lt.mp c16)
        clear c16
        obtain rfl := Option.some.inj H
        go_wp2
        go_ret
        exact ⟨er_, bb_⟩
       ·rw [if_neg c16] at H
        have c16b0 : decide ((l1.length : Int) < (l0.length : Int)) = false := decide_eq_false c16
        have c16b1 : decide (l1.length < l0.length) = false := decide_eq_false (fun h => c16 (Int.ofNat_lt.mpr h))
        clear c16
        obtain rfl := Option.some.inj H
        go_wp2
        go_ret
        exact ⟨er_, bb_⟩

/-! ### spec_l01In: function 89 -/
def spec_l01In.f (a0 : Int) (a1 : Int) (a2 : Int) : Option (Bool) := if a0 ≥ a1 then (some (decide (a0 ≤ a2))) else (some false)
set_option maxHeartbeats 8000000 in
theorem spec_l01In.calls (a0 : Int) (a1 : Int) (a2 : Int) (r : Bool) (w : World) (h : spec_l01In.f a0 a1 a2 = some r) :
  Calls Try.prog 89 #[.int .i64 a0, .int .i64 a1, .int .i64 a2] w fun e w' => e = .returned (.bool r) ∧ Drawn0 w w' := by
 have H : (if a0 ≥ a1 then (some (decide (a0 ≤ a2))) else (some false)) = some r := h
 clear h
 by_cases c4 : a0 ≥ a1
 ·rw [if_pos c4] at H
  have c4b0 : decide (a1 ≤ a0) = true := decide_eq_true c4
  clear c4
  obtain rfl := Option.some.inj H
  go_enter Try.func89, Try.ntmps89
  go_wp2
  go_ret
  exact ⟨by first | rfl | (simp; done) | (simp [*]; done), by repeat (first | exact Drawn0.refl _ | apply Drawn0.step)⟩
 ·rw [if_neg c4] at H
  have c4b0 : decide (a1 ≤ a0) = false := decide_eq_false c4
  clear c4
  obtain rfl := Option.some.inj H
  go_enter Try.func89, Try.ntmps89
  go_wp2
  go_ret
  exact ⟨by first | rfl | (simp; done) | (simp [*]; done), by repeat (first | exact Drawn0.refl _ | apply Drawn0.step)⟩

/-! ### spec_ValueOk: function 101 -/
def spec_ValueOk.f (a0_0 : Int) (a0_1 : Int) (a0_2 : ByteArray) : Option (Bool) := if a0_0 = 0 then (if a0_1 = 0 then (some (a0_2.toList == ([] : List UInt8))) else (some false)) else (if a0_0 = 1 then (some (a0_2.toList == ([] : List UInt8))) else (if a0_0 = 2 then ((spec_l01In.f a0_1 0 1).bind fun t118 => (if t118 = true then (some (a0_2.toList == ([] : List UInt8))) else (some false))) else (if a0_0 = 3 then (if a0_1 = 0 then (some (decide ((a0_2.size : Int) ≤ 100))) else (some false)) else (some false))))
set_option maxHeartbeats 8000000 in
theorem spec_ValueOk.calls (a0_0 : Int) (a0_1 : Int) (a0_2 : ByteArray) (r : Bool) (w : World) (h : spec_ValueOk.f a0_0 a0_1 a0_2 = some r) :
  Calls Try.prog 101 #[.agg #[.int .i64 a0_0, .int .i64 a0_1, .string a0_2]] w fun e w' => e = .returned (.bool r) ∧ Below w.heap.size w w' := by
 have hu25 := Try.underlying25
 have HB := Aside0.mk (Below.refl w.heap.size w)
 have H : (if a0_0 = 0 then (if a0_1 = 0 then (some (a0_2.toList == ([] : List UInt8))) else (some false)) else (if a0_0 = 1 then (some (a0_2.toList == ([] : List UInt8))) else (if a0_0 = 2 then ((spec_l01In.f a0_1 0 1).bind fun t118 => (if t118 = true then (some (a0_2.toList == ([] : List UInt8))) else (some false))) else (if a0_0 = 3 then (if a0_1 = 0 then (some (decide ((a0_2.size : Int) ≤ 100))) else (some false)) else (some false))))) = some r := h
 clear h
 by_cases c2 : a0_0 = 0
 ·rw [if_pos c2] at H
  have c2b0 : (a0_0 == 0) = true := beq_iff_eq.mpr c2
  have c2b1 : (a0_0 != 0) = false := bne_eq_false_iff_eq.mpr c2
  clear c2
  by_cases c3 : a0_1 = 0
  ·rw [if_pos c3] at H
   have c3b0 : (a0_1 == 0) = true := beq_iff_eq.mpr c3
   have c3b1 : (a0_1 != 0) = false := bne_eq_false_iff_eq.mpr c3
   clear c3
   obtain rfl := Option.some.inj H
   go_enter Try.func101, Try.ntmps101
   go_wp2_with (first | ((with_reducible refine gate_dst (N := 1) rfl ?_); (try (refine gate_guard (by rfl) ?_; dsimp only)); refine bx_ 1 #[.int .i64 a0_0, .int .i64 a0_1, .string a0_2] 25 ?_; intro gb117 hg w4 hbox hb; have BK117 := Aside0.mk (hbox); have GW117 := gw_ hg; have GE117 := gw_ hg; replace HB := bs_ hb; clear hb hbox hg; obtain ⟨hcz5_0, hcz5_1, hcz5_2, hfz5_0, hfz5_1, hfz5_2⟩ := b3_ BK117))
   go_ret
   exact ⟨er_, bb_⟩
  ·rw [if_neg c3] at H
   have c3b0 : (a0_1 == 0) = false := beq_eq_false_iff_ne.mpr c3
   have c3b1 : (a0_1 != 0) = true := bne_iff_ne.mpr c3
   obtain rfl := Option.some.inj H
   go_enter Try.func101, Try.ntmps101
   go_wp2_with (first | ((with_reducible refine gate_dst (N := 1) rfl ?_); (try (refine gate_guard (by rfl) ?_; dsimp only)); refine bx_ 1 #[.int .i64 a0_0, .int .i64 a0_1, .string a0_2] 25 ?_; intro gb117 hg w6 hbox hb; have BK117 := Aside0.mk (hbox); have GW117 := gw_ hg; have GE117 := gw_ hg; replace HB := bs_ hb; clear hb hbox hg; obtain ⟨hcz7_0, hcz7_1, hcz7_2, hfz7_0, hfz7_1, hfz7_2⟩ := b3_ BK117))
   go_ret
   exact ⟨er_, bb_⟩
 ·rw [if_neg c2] at H
  have c2b0 : (a0_0 == 0) = false := beq_eq_false_iff_ne.mpr c2
  have c2b1 : (a0_0 != 0) = true := bne_iff_ne.mpr c2
  by_cases c8 : a0_0 = 1
  ·rw [if_pos c8] at H
   have c8b0 : (a0_0 == 1) = true := beq_iff_eq.mpr c8
   have c8b1 : (a0_0 != 1) = false := bne_eq_false_iff_eq.mpr c8
   clear c8
   obtain rfl := Option.some.inj H
   go_enter Try.func101, Try.ntmps101
   go_wp2_with (first | ((with_reducible refine gate_dst (N := 1) rfl ?_); (try (refine gate_guard (by rfl) ?_; dsimp only)); refine bx_ 1 #[.int .i64 a0_0, .int .i64 a0_1, .string a0_2] 25 ?_; intro gb117 hg w9 hbox hb; have BK117 := Aside0.mk (hbox); have GW117 := gw_ hg; have GE117 := gw_ hg; replace HB := bs_ hb; clear hb hbox hg; obtain ⟨hcz10_0, hcz10_1, hcz10_2, hfz10_0, hfz10_1, hfz10_2⟩ := b3_ BK117))
   go_ret
   exact ⟨er_, bb_⟩
  ·rw [if_neg c8] at H
   have c8b0 : (a0_0 == 1) = false := beq_eq_false_iff_ne.mpr c8
   have c8b1 : (a0_0 != 1) = true := bne_iff_ne.mpr c8
   by_cases c11 : a0_0 = 2
   ·rw [if_pos c11] at H
    have c11b0 : (a0_0 == 2) = true := beq_iff_eq.mpr c11
    have c11b1 : (a0_0 != 2) = false := bne_eq_false_iff_eq.mpr c11
    clear c11
    replace H := Option.bind_eq_some_iff.mp H
    obtain ⟨t118, A120, H⟩ := H
    replace H : (if t118 = true then (some (a0_2.toList == ([] : List UInt8))) else (some false)) = some r := H
    have A12 := Aside0.mk A120
    clear A120
    by_cases c13 : t118 = true
    ·subst c13
     have H1 : (some (a0_2.toList == ([] : List UInt8))) = some r := by rw [if_pos rfl] at H; exact H
     clear H
     have H := H1
     clear H1
     obtain rfl := Option.some.inj H
     go_enter Try.func101, Try.ntmps101
     go_wp2_with (first | ((with_reducible refine gate_dst (N := 1) rfl ?_); (try (refine gate_guard (by rfl) ?_; dsimp only)); refine bx_ 1 #[.int .i64 a0_0, .int .i64 a0_1, .string a0_2] 25 ?_; intro gb117 hg w14 hbox hb; have BK117 := Aside0.mk (hbox); have GW117 := gw_ hg; have GE117 := gw_ hg; replace HB := bs_ hb; clear hb hbox hg; obtain ⟨hcz15_0, hcz15_1, hcz15_2, hfz15_0, hfz15_1, hfz15_2⟩ := b3_ BK117) | ((with_reducible refine gate_callee (f := 89) rfl ?_); refine gsL_ (some 24) Try.func89 #[.int .i64 a0_1, .int .i64 0, .int .i64 1] ?_; (with_reducible refine (spec_l01In.calls a0_1 0 1 true _ A12.out).mono ?_); rintro e w' ⟨rfl, ⟨nd, rfl⟩⟩; refine ⟨_, rfl, ?_⟩))
     go_ret
     exact ⟨er_, bb_⟩
    ·replace c13 := Bool.eq_false_iff.mpr c13
     subst c13
     have H1 : (some false) = some r := by rw [if_neg (show ¬ (false = true) by decide)] at H; exact H
     clear H
     have H := H1
     clear H1
     obtain rfl := Option.some.inj H
     go_enter Try.func101, Try.ntmps101
     go_wp2_with (first | ((with_reducible refine gate_dst (N := 1) rfl ?_); (try (refine gate_guard (by rfl) ?_; dsimp only)); refine bx_ 1 #[.int .i64 a0_0, .int .i64 a0_1, .string a0_2] 25 ?_; intro gb117 hg w16 hbox hb; have BK117 := Aside0.mk (hbox); have GW117 := gw_ hg; have GE117 := gw_ hg; replace HB := bs_ hb; clear hb hbox hg; obtain ⟨hcz17_0, hcz17_1, hcz17_2, hfz17_0, hfz17_1, hfz17_2⟩ := b3_ BK117) | ((with_reducible refine gate_callee (f := 89) rfl ?_); refine gsL_ (some 24) Try.func89 #[.int .i64 a0_1, .int .i64 0, .int .i64 1] ?_; (with_reducible refine (spec_l01In.calls a0_1 0 1 false _ A12.out).mono ?_); rintro e w' ⟨rfl, ⟨nd, rfl⟩⟩; refine ⟨_, rfl, ?_⟩))
     go_ret
     exact ⟨er_, bb_⟩
   ·rw [if_neg c11] at H
    have c11b0 : (a0_0 == 2) = false := beq_eq_false_iff_ne.mpr c11
    have c11b1 : (a0_0 != 2) = true := bne_iff_ne.mpr c11
    by_cases c18 : a0_0 = 3
    ·rw [if_pos c18] at H
     have c18b0 : (a0_0 == 3) = true := beq_iff_eq.mpr c18
     have c18b1 : (a0_0 != 3) = false := bne_eq_false_iff_eq.mpr c18
     clear c18
     by_cases c19 : a0_1 = 0
     ·rw [if_pos c19] at H
      have c19b0 : (a0_1 == 0) = true := beq_iff_eq.mpr c19
      have c19b1 : (a0_1 != 0) = false := bne_eq_false_iff_eq.mpr c19
      clear c19
      obtain rfl := Option.some.inj H
      go_enter Try.func101, Try.ntmps101
      go_wp2_with (first | ((with_reducible refine gate_dst (N := 1) rfl ?_); (try (refine gate_guard (by rfl) ?_; dsimp only)); refine bx_ 1 #[.int .i64 a0_0, .int .i64 a0_1, .string a0_2] 25 ?_; intro gb117 hg w20 hbox hb; have BK117 := Aside0.mk (hbox); have GW117 := gw_ hg; have GE117 := gw_ hg; replace HB := bs_ hb; clear hb hbox hg; obtain ⟨hcz21_0, hcz21_1, hcz21_2, hfz21_0, hfz21_1, hfz21_2⟩ := b3_ BK117))
      go_ret
      exact ⟨er_, bb_⟩
     ·rw [if_neg c19] at H
      have c19b0 : (a0_1 == 0) = false := beq_eq_false_iff_ne.mpr c19
      have c19b1 : (a0_1 != 0) = true := bne_iff_ne.mpr c19
      obtain rfl := Option.some.inj H
      go_enter Try.func101, Try.ntmps101
      go_wp2_with (first | ((with_reducible refine gate_dst (N := 1) rfl ?_); (try (refine gate_guard (by rfl) ?_; dsimp only)); refine bx_ 1 #[.int .i64 a0_0, .int .i64 a0_1, .string a0_2] 25 ?_; intro gb117 hg w22 hbox hb; have BK117 := Aside0.mk (hbox); have GW117 := gw_ hg; have GE117 := gw_ hg; replace HB := bs_ hb; clear hb hbox hg; obtain ⟨hcz23_0, hcz23_1, hcz23_2, hfz23_0, hfz23_1, hfz23_2⟩ := b3_ BK117))
      go_ret
      exact ⟨er_, bb_⟩
    ·rw [if_neg c18] at H
     have c18b0 : (a0_0 == 3) = false := beq_eq_false_iff_ne.mpr c18
     have c18b1 : (a0_0 != 3) = true := bne_iff_ne.mpr c18
     obtain rfl := Option.some.inj H
     go_enter Try.func101, Try.ntmps101
     go_wp2_with (first | ((with_reducible refine gate_dst (N := 1) rfl ?_); (try (refine gate_guard (by rfl) ?_; dsimp only)); refine bx_ 1 #[.int .i64 a0_0, .int .i64 a0_1, .string a0_2] 25 ?_; intro gb117 hg w24 hbox hb; have BK117 := Aside0.mk (hbox); have GW117 := gw_ hg; have GE117 := gw_ hg; replace HB := bs_ hb; clear hb hbox hg; obtain ⟨hcz25_0, hcz25_1, hcz25_2, hfz25_0, hfz25_1, hfz25_2⟩ := b3_ BK117))
     go_ret
     exact ⟨er_, bb_⟩

/-! ### spec_l02Row: function 88 -/
def spec_l02Row.l0 : Nat → List (S25) → Int → Int → Option (Bool)
 | 0, _, _, _ => none
 | k + 1, x0, x1, x5 => if x5 < (x0.length : Int) then (if 0 ≤ x5 then ((spec_ValueOk.f ((rd_T25 x0 x5).f0) ((rd_T25 x0 x5).f1) ((rd_T25 x0 x5).f2)).bind fun t120 => (if t120 = true then (spec_l02Row.l0 k x0 x1 (wrap64 (x5 + 1))) else (some false))) else (none)) else (some ((x0.length : Int) == x1))
def spec_l02Row.f (k : Nat) (l0 : List (S25)) (a1 : Int) : Option (Bool) := spec_l02Row.l0 k l0 a1 0
set_option maxHeartbeats 8000000 in
theorem spec_l02Row.calls (k : Nat) (A0 : Option Addr) (c0 : Nat) (l0 : List (S25)) (a1 : Int) (r : Bool) (w : World) (hr0 : Kd.C k25 w A0 l0.length l0) (hc0 : l0.length ≤ c0) (h : spec_l02Row.f k l0 a1 = some r) :
  Calls Try.prog 88 #[.slice A0 l0.length c0, .int .i64 a1] w fun e w' => e = .returned (.bool r) ∧ Below w.heap.size w w' := by
 have hu25 := Try.underlying25
 have HR0 := Aside0.mk hr0
 have HC0 := Aside0.mk hc0
 clear hr0 hc0
 have HB := Aside0.mk (Below.refl w.heap.size w)
 have H : (spec_l02Row.l0 k l0 a1 0) = some r := h
 clear h
 have H' := Aside0.mk H
 clear H
 go_enter Try.func88, Try.ntmps88
 go_wp2
 go_loopg [5] k (fun kq v5 w' => ∃ (x5_1 : Int), v5 = .int .i64 x5_1 ∧ Aside0 (spec_l02Row.l0 kq l0 a1 x5_1 = some r) ∧ Aside0 (kq ≤ k) ∧ Aside0 (Below w.heap.size w w'))
 case atStart => exact ⟨(0), rs_, H', ⟨Nat.le_refl _⟩, ⟨bb_⟩⟩
 case round =>
  clear H'
  try clear p2
  obtain ⟨x5_1, rfl, HA, HK1, HB⟩ := hrel
  cases gk with
  | zero => exact absurd HA.out (by simp [spec_l02Row.l0])
  | succ k1 =>
   have H := HA.out
   clear HA
   simp only [spec_l02Row.l0] at H
   by_cases c3 : x5_1 < (l0.length : Int)
   ·rw [if_pos c3] at H
    have c3b0 : decide (x5_1 < (l0.length : Int)) = true := decide_eq_true c3
    clear c3
    by_cases c4 : 0 ≤ x5_1
    ·rw [if_pos c4] at H
     have c4b0 : decide (0 ≤ x5_1) = true := decide_eq_true c4
     clear c4
     replace H := Option.bind_eq_some_iff.mp H
     obtain ⟨t120, A50, H⟩ := H
     replace H : (if t120 = true then (spec_l02Row.l0 k1 l0 a1 (wrap64 (x5_1 + 1))) else (some false)) = some r := H
     have A5 := Aside0.mk A50
     clear A50
     by_cases c6 : t120 = true
     ·subst c6
      have H1 : (spec_l02Row.l0 k1 l0 a1 (wrap64 (x5_1 + 1))) = some r := by rw [if_pos rfl] at H; exact H
      clear H
      have H := H1
      clear H1
      have H' := Aside0.mk H
      clear H
      have p119 : 0 ≤ (x5_1 : Int) := od_
      have q119 : x5_1 < (l0.length : Int) := od_
      obtain ⟨ad119, e119, hx119_0, hx119_1, hx119_2⟩ := at_T25 HR0.out x5_1 p119 q119
      cases e119
      replace hx119_0 := hb_ HB hx119_0
      replace hx119_1 := hb_ HB hx119_1
      replace hx119_2 := hb_ HB hx119_2
      replace p119 := eq_true p119
      replace q119 := eq_true q119
      go_wp2_with (first | ((with_reducible refine gate_callee (f := 101) rfl ?_); refine gsL_ (some 16) Try.func101 #[.agg #[.int .i64 ((rd_T25 l0 x5_1).f0), .int .i64 ((rd_T25 l0 x5_1).f1), .string ((rd_T25 l0 x5_1).f2)]] ?_; (with_reducible refine (spec_ValueOk.calls ((rd_T25 l0 x5_1).f0) ((rd_T25 l0 x5_1).f1) ((rd_T25 l0 x5_1).f2) true _ A5.out).mono ?_); rintro e w7 ⟨rfl, hb⟩; refine ⟨_, rfl, ?_⟩; replace HB := bs_ hb; (try clear hb); (try clear hb2); (try clear hk); (try clear hi)))
      go_roundg k1
      case measure => have := HK1.out; omega
      case rel => exact ⟨(wrap64 (x5_1 + 1)), rs_, H', ⟨by have := HK1.out; omega⟩, ⟨bb_⟩⟩
     ·replace c6 := Bool.eq_false_iff.mpr c6
      subst c6
      have H1 : (some false) = some r := by rw [if_neg (show ¬ (false = true) by decide)] at H; exact H
      clear H
      have H := H1
      clear H1
      obtain rfl := Option.some.inj H
      have p119 : 0 ≤ (x5_1 : Int) := od_
      have q119 : x5_1 < (l0.length : Int) := od_
      obtain ⟨ad119, e119, hx119_0, hx119_1, hx119_2⟩ := at_T25 HR0.out x5_1 p119 q119
      cases e119
      replace hx119_0 := hb_ HB hx119_0
      replace hx119_1 := hb_ HB hx119_1
      replace hx119_2 := hb_ HB hx119_2
      replace p119 := eq_true p119
      replace q119 := eq_true q119
      go_wp2_with (first | ((with_reducible refine gate_callee (f := 101) rfl ?_); refine gsL_ (some 16) Try.func101 #[.agg #[.int .i64 ((rd_T25 l0 x5_1).f0), .int .i64 ((rd_T25 l0 x5_1).f1), .string ((rd_T25 l0 x5_1).f2)]] ?_; (with_reducible refine (spec_ValueOk.calls ((rd_T25 l0 x5_1).f0) ((rd_T25 l0 x5_1).f1) ((rd_T25 l0 x5_1).f2) false _ A5.out).mono ?_); rintro e w8 ⟨rfl, hb⟩; refine ⟨_, rfl, ?_⟩; replace HB := bs_ hb; (try clear hb); (try clear hb2); (try clear hk); (try clear hi)))
      go_ret
      exact ⟨er_, bb_⟩
    ·rw [if_neg c4] at H
     exact absurd H (by simp)
   ·rw [if_neg c3] at H
    have c3b0 : decide (x5_1 < (l0.length : Int)) = false := decide_eq_false c3
    clear c3
    obtain rfl := Option.some.inj H
    go_wp2
    go_ret
    exact ⟨er_, bb_⟩

end Go.Proofs.Ytapgfamppnhnmaa.PFnExactChangeOk
