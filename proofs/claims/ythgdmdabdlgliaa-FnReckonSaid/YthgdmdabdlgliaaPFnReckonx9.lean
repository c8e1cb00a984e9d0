-- WRITTEN BY xprint.py, a program of this session over the kit's printer: by nobody's hand
-- PRESSED TWICE
import Derived.Test.YthgdmdabdlgliaaPress
import Derived.Test.YthgdmdabdlgliaaPFnReckonx0
import Derived.Test.YthgdmdabdlgliaaPFnReckonx2
import Derived.Test.YthgdmdabdlgliaaPFnReckonx3
import Derived.Test.YthgdmdabdlgliaaPFnReckonx4
import Derived.Test.YthgdmdabdlgliaaPFnReckonx7
import Derived.Test.YthgdmdabdlgliaaPFnReckonx8
namespace Go.Proofs.Ythgdmdabdlgliaa.PFnReckon
open Go.RowKit Go.Proofs.YthgdmdabdlgliaaW.PrintWords Go.Proofs.YthgdmdabdlgliaaW.PrintLast Go.Proofs.YthgdmdabdlgliaaW.PrintMore
set_option linter.unusedVariables false
set_option linter.unusedSimpArgs false

/-! ### spec_Reckon: function 11 -/
mutual
def spec_Reckon.j0 : Nat → ByteArray → Bool → Int → Int → ByteArray → Int → Int → ByteArray → Option (Int × Int × ByteArray)
 | 0, _, _, _, _, _, _, _, _ => none
 | k + 1, x0, x7, x368000, x368001, x368002, x369000, x369001, x369002 => if x7 = true then ((spec_l01Logic.f k x0 x368000 x368001 x368002 x369000 x369001 x369002).bind fun bt370 => (some (bt370.1, bt370.2.1, bt370.2.2))) else (if x368000 = x369000 then (spec_Reckon.j1 k x0 (x368000 == 0) x368000 x368001 x368002 x369000 x369001 x369002) else (spec_Reckon.j1 k x0 true x368000 x368001 x368002 x369000 x369001 x369002))
def spec_Reckon.j1 : Nat → ByteArray → Bool → Int → Int → ByteArray → Int → Int → ByteArray → Option (Int × Int × ByteArray)
 | 0, _, _, _, _, _, _, _, _ => none
 | k + 1, x0, x18, x368000, x368001, x368002, x369000, x369001, x369002 => if x18 = true then (some (0, 0, (⟨#[]⟩ : ByteArray))) else (if x0.toList = ([61] : List UInt8) then ((spec_CompareValue.f x368000 x368001 x368002 x369000 x369001 x369002).bind fun t373 => ((spec_l01Bool.f (t373 == 0)).bind fun bt374 => (some (bt374.1, bt374.2.1, bt374.2.2)))) else (if x0.toList = ([60] : List UInt8) then ((spec_CompareValue.f x368000 x368001 x368002 x369000 x369001 x369002).bind fun t377 => ((spec_l01Bool.f (decide (t377 < 0))).bind fun bt378 => (some (bt378.1, bt378.2.1, bt378.2.2)))) else (if x0.toList = ([126] : List UInt8) then (spec_Reckon.j2 k x0 (x368000 == 3) x368000 x368001 x368002 x369000 x369001 x369002) else (spec_Reckon.j2 k x0 false x368000 x368001 x368002 x369000 x369001 x369002))))
def spec_Reckon.j2 : Nat → ByteArray → Bool → Int → Int → ByteArray → Int → Int → ByteArray → Option (Int × Int × ByteArray)
 | 0, _, _, _, _, _, _, _, _ => none
 | k + 1, x0, x46, x368000, x368001, x368002, x369000, x369001, x369002 => if x46 = true then ((spec_l01Holds.f k x368002 x369002).bind fun t381 => ((spec_l01Bool.f t381).bind fun bt382 => (some (bt382.1, bt382.2.1, bt382.2.2)))) else (if x368000 = 1 then ((spec_l01Arith.f k x0 x368001 x369001).bind fun bt385 => (some (bt385.1, bt385.2.1, bt385.2.2))) else (some (0, 0, (⟨#[]⟩ : ByteArray))))
end
def spec_Reckon.f (k : Nat) (a0 : ByteArray) (a1_0 : Int) (a1_1 : Int) (a1_2 : ByteArray) (a2_0 : Int) (a2_1 : Int) (a2_2 : ByteArray) : Option (Int × Int × ByteArray) := if a0.toList = ([97, 110, 100] : List UInt8) then (spec_Reckon.j0 k a0 true a1_0 a1_1 a1_2 a2_0 a2_1 a2_2) else (spec_Reckon.j0 k a0 (a0.toList == ([111, 114] : List UInt8)) a1_0 a1_1 a1_2 a2_0 a2_1 a2_2)
set_option maxHeartbeats 8000000 in
set_option maxRecDepth 100000 in
theorem spec_Reckon.calls (k : Nat) (a0 : ByteArray) (a1_0 : Int) (a1_1 : Int) (a1_2 : ByteArray) (a2_0 : Int) (a2_1 : Int) (a2_2 : ByteArray) (r1 : Int) (r2 : Int) (r3 : ByteArray) (w : World) (h : spec_Reckon.f k a0 a1_0 a1_1 a1_2 a2_0 a2_1 a2_2 = some (r1, r2, r3)) :
  Calls Try.prog 11 #[.string a0, .agg #[.int .i64 a1_0, .int .i64 a1_1, .string a1_2], .agg #[.int .i64 a2_0, .int .i64 a2_1, .string a2_2]] w fun e w' => e = .returned (.agg #[.int .i64 r1, .int .i64 r2, .string r3]) ∧ Below w.heap.size w w' := by
 have hu25 := Try.underlying25
 have HB := Aside0.mk (Below.refl w.heap.size w)
 have H : (if a0.toList = ([97, 110, 100] : List UInt8) then (spec_Reckon.j0 k a0 true a1_0 a1_1 a1_2 a2_0 a2_1 a2_2) else (spec_Reckon.j0 k a0 (a0.toList == ([111, 114] : List UInt8)) a1_0 a1_1 a1_2 a2_0 a2_1 a2_2)) = some (r1, r2, r3) := h
 clear h
 have HC4 := Aside0.mk H
 clear H
 go_enter Try.func11, Try.ntmps11
 go_upto_region 1 with (first | ((with_reducible refine gate_dst (N := 4) rfl ?_); refine bx_ 4 #[.int .i64 a1_0, .int .i64 a1_1, .string a1_2] 25 ?_; intro gb367 hg w5 hbox hb; have BK367 := Aside0.mk (hbox); have GW367 := gw_ hg; have GE367 := gw_ hg; replace HB := bs_ hb; clear hb hbox hg) | ((with_reducible refine gate_dst (N := 5) rfl ?_); refine bx_ 5 #[.int .i64 a2_0, .int .i64 a2_1, .string a2_2] 25 ?_; intro gb368 hg w6 hbox hb; have BK368 := Aside0.mk (hbox); have GW368 := gw_ hg; have GE368 := gw_ hg; have NB367_368 := nl_ hg BK367; have NB368_367 := ng_ hg BK367; replace BK367 := bkb_ BK367 hb; replace HB := bs_ hb; clear hb hbox hg) | ((with_reducible refine gate_dst (N := 6) rfl ?_); refine bx_ 6 #[.int .i64 0, .int .i64 0, .string (⟨#[]⟩ : ByteArray)] 25 ?_; intro gb369 hg w7 hbox hb; have BK369 := Aside0.mk (hbox); have GW369 := gw_ hg; have GE369 := gw_ hg; have NB367_369 := nl_ hg BK367; have NB369_367 := ng_ hg BK367; have NB368_369 := nl_ hg BK368; have NB369_368 := ng_ hg BK368; replace BK367 := bkb_ BK367 hb; replace BK368 := bkb_ BK368 hb; replace HB := bs_ hb; clear hb hbox hg))
 (try simp only [Act.put, List.setIfInBounds_toArray, List.set_cons_zero, List.set_cons_succ])
 go_cut [7] (fun v7 wc => ∃ (kq : Nat) (x7_3 : Bool), v7 = .bool x7_3 ∧ Aside0 (spec_Reckon.j0 kq a0 x7_3 a1_0 a1_1 a1_2 a2_0 a2_1 a2_2 = some (r1, r2, r3)) ∧ Aside0 (kq ≤ k) ∧ Aside0 (wc.heap[gb367]? = some (.cells #[.int .i64 a1_0, .int .i64 a1_1, .string a1_2] 25 (0, 0))) ∧ Aside0 (wc.heap[gb368]? = some (.cells #[.int .i64 a2_0, .int .i64 a2_1, .string a2_2] 25 (0, 0))) ∧ Aside0 (wc.heap[gb369]? = some (.cells #[.int .i64 0, .int .i64 0, .string (⟨#[]⟩ : ByteArray)] 25 (0, 0))) ∧ Aside0 (Below w.heap.size w wc))
 case first =>
  have H := HC4.out; clear HC4
  by_cases c8 : a0.toList = ([97, 110, 100] : List UInt8)
  ·rw [if_pos c8] at H
   have c8b0 : (a0.toList == ([97, 110, 100] : List UInt8)) = true := beq_iff_eq.mpr c8; have c8b1 : (a0.toList != ([97, 110, 100] : List UInt8)) = false := bne_eq_false_iff_eq.mpr c8; clear c8; (first | rw [c8b0] | (simp only [i64_w, i32_w]; rw [c8b0]) | skip); have H' := Aside0.mk H; clear H
   go_wp2
   go_meet
   case rel => exact ⟨_, (true), rs_, H', ⟨by first | omega | exact Nat.le_refl _⟩, ⟨bkx_ BK367.out⟩, ⟨bkx_ BK368.out⟩, ⟨bkx_ BK369.out⟩, ⟨bb_⟩⟩
  ·rw [if_neg c8] at H
   have c8b0 : (a0.toList == ([97, 110, 100] : List UInt8)) = false := beq_eq_false_iff_ne.mpr c8; have c8b1 : (a0.toList != ([97, 110, 100] : List UInt8)) = true := bne_iff_ne.mpr c8; (first | rw [c8b0] | (simp only [i64_w, i32_w]; rw [c8b0]) | skip); have H' := Aside0.mk H; clear H
   go_wp2
   go_meet
   case rel => exact ⟨_, ((a0.toList == ([111, 114] : List UInt8))), rs_, H', ⟨by first | omega | exact Nat.le_refl _⟩, ⟨bkx_ BK367.out⟩, ⟨bkx_ BK368.out⟩, ⟨bkx_ BK369.out⟩, ⟨bb_⟩⟩
 case rest =>
  clear HC4; (try clear c1); (try clear p2); (try clear c8); (try clear c8b0); (try clear c8b1); obtain ⟨kq, x7_3, rfl, HA, HJ3, BK367, BK368, BK369, HB⟩ := hcut
  cases kq with
  | zero => exact absurd HA.out (by simp [spec_Reckon.j0])
  | succ kj3 =>
   have H := HA.out; clear HA; simp only [spec_Reckon.j0] at H
   by_cases c9 : x7_3 = true
   ·subst c9
    (have H1 : ((spec_l01Logic.f kj3 a0 a1_0 a1_1 a1_2 a2_0 a2_1 a2_2).bind fun bt370 => (some (bt370.1, bt370.2.1, bt370.2.2))) = some (r1, r2, r3) := by rw [if_pos rfl] at H; exact H); clear H; have H := H1; clear H1; replace H := Option.bind_eq_some_iff.mp H; obtain ⟨⟨t370, t371, t372⟩, A100, H⟩ := H; replace H : (some (t370, t371, t372)) = some (r1, r2, r3) := H; have A10 := Aside0.mk A100; clear A100; simp only [Option.some.injEq, Prod.mk.injEq] at H; obtain ⟨rfl, rfl, rfl⟩ := H; have hnb11 := NB367_368.out; have hnc11 := NB368_367.out; have hnb12 := NB367_369.out; have hnc12 := NB369_367.out; obtain ⟨hcz13_0, hcz13_1, hcz13_2, hfz13_0, hfz13_1, hfz13_2⟩ := b3_ BK367; have hnb14 := NB368_369.out; have hnc14 := NB369_368.out; obtain ⟨hcz15_0, hcz15_1, hcz15_2, hfz15_0, hfz15_1, hfz15_2⟩ := b3_ BK368
    go_wp2_with (first | ((with_reducible refine gate_callee (f := 53) rfl ?_); refine gsL_ (some 17) Try.func53 #[.string a0, .agg #[.int .i64 a1_0, .int .i64 a1_1, .string a1_2], .agg #[.int .i64 a2_0, .int .i64 a2_1, .string a2_2]] ?_; (with_reducible refine (spec_l01Logic.calls kj3 a0 a1_0 a1_1 a1_2 a2_0 a2_1 a2_2 t370 t371 t372 _ A10.out).mono ?_); rintro e w16 ⟨rfl, hb⟩; refine ⟨_, rfl, ?_⟩; replace BK367 := bkb_ BK367 hb; replace BK368 := bkb_ BK368 hb; replace BK369 := bkb_ BK369 hb; replace HB := bs_ hb; (try clear hb); obtain ⟨hcz17_0, hcz17_1, hcz17_2, hfz17_0, hfz17_1, hfz17_2⟩ := b3_ BK369))
    refine bodyPost_ret (results_cell_row rfl _ _ gb369 25 #[.int .i64 t370, .int .i64 t371, .string t372] (0, 0) _ rfl (bp3_ (bkx_ BK369.out)) Try.underlying25 rfl (by kernel_rfl)) rfl ?_; exact ⟨er_, bb_⟩
   ·replace c9 := Bool.eq_false_iff.mpr c9
    subst c9; (have H1 : (if a1_0 = a2_0 then (spec_Reckon.j1 kj3 a0 (a1_0 == 0) a1_0 a1_1 a1_2 a2_0 a2_1 a2_2) else (spec_Reckon.j1 kj3 a0 true a1_0 a1_1 a1_2 a2_0 a2_1 a2_2)) = some (r1, r2, r3) := by rw [if_neg (show ¬ (false = true) by decide)] at H; exact H); clear H; have H := H1; clear H1; have HC18 := Aside0.mk H; clear H
    go_upto_region 3 with (fail)
    go_cut [18] (fun v18 wc => ∃ (kq : Nat) (x18_17 : Bool), v18 = .bool x18_17 ∧ Aside0 (spec_Reckon.j1 kq a0 x18_17 a1_0 a1_1 a1_2 a2_0 a2_1 a2_2 = some (r1, r2, r3)) ∧ Aside0 (kq ≤ kj3) ∧ Aside0 (wc.heap[gb367]? = some (.cells #[.int .i64 a1_0, .int .i64 a1_1, .string a1_2] 25 (0, 0))) ∧ Aside0 (wc.heap[gb368]? = some (.cells #[.int .i64 a2_0, .int .i64 a2_1, .string a2_2] 25 (0, 0))) ∧ Aside0 (wc.heap[gb369]? = some (.cells #[.int .i64 0, .int .i64 0, .string (⟨#[]⟩ : ByteArray)] 25 (0, 0))) ∧ Aside0 (Below w.heap.size w wc))
    case first =>
     have H := HC18.out; clear HC18
     by_cases c19 : a1_0 = a2_0
     ·rw [if_pos c19] at H
      have c19b0 : (a1_0 == a2_0) = true := beq_iff_eq.mpr c19; have c19b1 : (a1_0 != a2_0) = false := bne_eq_false_iff_eq.mpr c19; clear c19; (first | rw [c19b0] | (simp only [i64_w, i32_w]; rw [c19b0]) | skip); have H' := Aside0.mk H; clear H; have hnb20 := NB367_368.out; have hnc20 := NB368_367.out; have hnb21 := NB367_369.out; have hnc21 := NB369_367.out; obtain ⟨hcz22_0, hcz22_1, hcz22_2, hfz22_0, hfz22_1, hfz22_2⟩ := b3_ BK367; have hnb23 := NB368_369.out; have hnc23 := NB369_368.out; obtain ⟨hcz24_0, hcz24_1, hcz24_2, hfz24_0, hfz24_1, hfz24_2⟩ := b3_ BK368
      go_wp2
      go_meet
      case rel => exact ⟨_, ((a1_0 == 0)), rs_, H', ⟨by have := HJ3.out; first | omega | exact Nat.le_refl _⟩, ⟨bkx_ BK367.out⟩, ⟨bkx_ BK368.out⟩, ⟨bkx_ BK369.out⟩, ⟨bb_⟩⟩
     ·rw [if_neg c19] at H
      have c19b0 : (a1_0 == a2_0) = false := beq_eq_false_iff_ne.mpr c19; have c19b1 : (a1_0 != a2_0) = true := bne_iff_ne.mpr c19; (first | rw [c19b0] | (simp only [i64_w, i32_w]; rw [c19b0]) | skip); have H' := Aside0.mk H; clear H; have hnb25 := NB367_368.out; have hnc25 := NB368_367.out; have hnb26 := NB367_369.out; have hnc26 := NB369_367.out; obtain ⟨hcz27_0, hcz27_1, hcz27_2, hfz27_0, hfz27_1, hfz27_2⟩ := b3_ BK367; have hnb28 := NB368_369.out; have hnc28 := NB369_368.out; obtain ⟨hcz29_0, hcz29_1, hcz29_2, hfz29_0, hfz29_1, hfz29_2⟩ := b3_ BK368
      go_wp2
      go_meet
      case rel => exact ⟨_, (true), rs_, H', ⟨by have := HJ3.out; first | omega | exact Nat.le_refl _⟩, ⟨bkx_ BK367.out⟩, ⟨bkx_ BK368.out⟩, ⟨bkx_ BK369.out⟩, ⟨bb_⟩⟩
    case rest =>
     clear HC18; (try clear c1); (try clear c2); (try clear p2); (try clear c5); (try clear c8); (try clear c8b0); (try clear c8b1); (try clear c9); (try clear c11); (try clear c12); (try clear c14); (try clear c19); (try clear c19b0); (try clear c19b1); (try clear c20); (try clear c21); (try clear c23); (try clear c25); (try clear c26); (try clear c28); (try clear hcz13_0); (try clear hcz13_1); (try clear hcz13_2); (try clear hcz15_0); (try clear hcz15_1); (try clear hcz15_2); (try clear hcz17_0); (try clear hcz17_1); (try clear hcz17_2); (try clear hcz22_0); (try clear hcz22_1); (try clear hcz22_2); (try clear hcz24_0); (try clear hcz24_1); (try clear hcz24_2); (try clear hcz27_0); (try clear hcz27_1); (try clear hcz27_2); (try clear hcz29_0); (try clear hcz29_1); (try clear hcz29_2); (try clear hfz13_0); (try clear hfz13_1); (try clear hfz13_2); (try clear hfz15_0); (try clear hfz15_1); (try clear hfz15_2); (try clear hfz17_0); (try clear hfz17_1); (try clear hfz17_2); (try clear hfz22_0); (try clear hfz22_1); (try clear hfz22_2); (try clear hfz24_0); (try clear hfz24_1); (try clear hfz24_2); (try clear hfz27_0); (try clear hfz27_1); (try clear hfz27_2); (try clear hfz29_0); (try clear hfz29_1); (try clear hfz29_2); (try clear p2); obtain ⟨kq, x18_17, rfl, HA, HJ17, BK367, BK368, BK369, HB⟩ := hcut
     cases kq with
     | zero => exact absurd HA.out (by simp [spec_Reckon.j1])
     | succ kj17 =>
      have H := HA.out; clear HA; simp only [spec_Reckon.j1] at H
      by_cases c30 : x18_17 = true
      ·subst c30
       (have H1 : (some (0, 0, (⟨#[]⟩ : ByteArray))) = some (r1, r2, r3) := by rw [if_pos rfl] at H; exact H); clear H; have H := H1; clear H1; simp only [Option.some.injEq, Prod.mk.injEq] at H; obtain ⟨rfl, rfl, rfl⟩ := H; have hnb31 := NB369_367.out; have hnc31 := NB367_369.out; have hnb32 := NB369_368.out; have hnc32 := NB368_369.out; obtain ⟨hcz33_0, hcz33_1, hcz33_2, hfz33_0, hfz33_1, hfz33_2⟩ := b3_ BK369
       go_wp2
       refine bodyPost_ret (results_cell_row rfl _ _ gb369 25 #[.int .i64 0, .int .i64 0, .string (⟨#[]⟩ : ByteArray)] (0, 0) _ rfl (bp3_ (bkx_ BK369.out)) Try.underlying25 rfl (by kernel_rfl)) rfl ?_; exact ⟨er_, bb_⟩
      ·replace c30 := Bool.eq_false_iff.mpr c30
       subst c30; (have H1 : (if a0.toList = ([61] : List UInt8) then ((spec_CompareValue.f a1_0 a1_1 a1_2 a2_0 a2_1 a2_2).bind fun t373 => ((spec_l01Bool.f (t373 == 0)).bind fun bt374 => (some (bt374.1, bt374.2.1, bt374.2.2)))) else (if a0.toList = ([60] : List UInt8) then ((spec_CompareValue.f a1_0 a1_1 a1_2 a2_0 a2_1 a2_2).bind fun t377 => ((spec_l01Bool.f (decide (t377 < 0))).bind fun bt378 => (some (bt378.1, bt378.2.1, bt378.2.2)))) else (if a0.toList = ([126] : List UInt8) then (spec_Reckon.j2 kj17 a0 (a1_0 == 3) a1_0 a1_1 a1_2 a2_0 a2_1 a2_2) else (spec_Reckon.j2 kj17 a0 false a1_0 a1_1 a1_2 a2_0 a2_1 a2_2)))) = some (r1, r2, r3) := by rw [if_neg (show ¬ (false = true) by decide)] at H; exact H); clear H; have H := H1; clear H1
       by_cases c34 : a0.toList = ([61] : List UInt8)
       ·rw [if_pos c34] at H
        have c34b0 : (a0.toList == ([61] : List UInt8)) = true := beq_iff_eq.mpr c34; have c34b1 : (a0.toList != ([61] : List UInt8)) = false := bne_eq_false_iff_eq.mpr c34; clear c34; replace H := Option.bind_eq_some_iff.mp H; obtain ⟨t373, A350, H⟩ := H; (replace H : ((spec_l01Bool.f (t373 == 0)).bind fun bt374 => (some (bt374.1, bt374.2.1, bt374.2.2))) = some (r1, r2, r3) := H); have A35 := Aside0.mk A350; clear A350; replace H := Option.bind_eq_some_iff.mp H; obtain ⟨⟨t374, t375, t376⟩, A360, H⟩ := H; replace H : (some (t374, t375, t376)) = some (r1, r2, r3) := H; have A36 := Aside0.mk A360; clear A360; simp only [Option.some.injEq, Prod.mk.injEq] at H; obtain ⟨rfl, rfl, rfl⟩ := H; have hnb37 := NB367_368.out; have hnc37 := NB368_367.out; have hnb38 := NB367_369.out; have hnc38 := NB369_367.out; obtain ⟨hcz39_0, hcz39_1, hcz39_2, hfz39_0, hfz39_1, hfz39_2⟩ := b3_ BK367; have hnb40 := NB368_369.out; have hnc40 := NB369_368.out; obtain ⟨hcz41_0, hcz41_1, hcz41_2, hfz41_0, hfz41_1, hfz41_2⟩ := b3_ BK368
        go_wp2_with (first | ((with_reducible refine gate_callee (f := 55) rfl ?_); refine gsL_ (some 35) Try.func55 #[.agg #[.int .i64 a1_0, .int .i64 a1_1, .string a1_2], .agg #[.int .i64 a2_0, .int .i64 a2_1, .string a2_2]] ?_; (with_reducible refine (spec_CompareValue.calls a1_0 a1_1 a1_2 a2_0 a2_1 a2_2 t373 _ A35.out).mono ?_); rintro e w42 ⟨rfl, hb⟩; refine ⟨_, rfl, ?_⟩; replace BK367 := bkb_ BK367 hb; replace BK368 := bkb_ BK368 hb; replace BK369 := bkb_ BK369 hb; replace HB := bs_ hb; (try clear hb)) | ((with_reducible refine gate_callee (f := 54) rfl ?_); refine gsL_ (some 37) Try.func54 #[.bool (t373 == 0)] ?_; (with_reducible refine (spec_l01Bool.calls (t373 == 0) t374 t375 t376 _ A36.out).mono ?_); rintro e w43 ⟨rfl, hb⟩; refine ⟨_, rfl, ?_⟩; replace BK367 := bkb_ BK367 hb; replace BK368 := bkb_ BK368 hb; replace BK369 := bkb_ BK369 hb; replace HB := bs_ hb; (try clear hb); obtain ⟨hcz44_0, hcz44_1, hcz44_2, hfz44_0, hfz44_1, hfz44_2⟩ := b3_ BK369))
        refine bodyPost_ret (results_cell_row rfl _ _ gb369 25 #[.int .i64 t374, .int .i64 t375, .string t376] (0, 0) _ rfl (bp3_ (bkx_ BK369.out)) Try.underlying25 rfl (by kernel_rfl)) rfl ?_; exact ⟨er_, bb_⟩
       ·rw [if_neg c34] at H
        have c34b0 : (a0.toList == ([61] : List UInt8)) = false := beq_eq_false_iff_ne.mpr c34; have c34b1 : (a0.toList != ([61] : List UInt8)) = true := bne_iff_ne.mpr c34
        by_cases c45 : a0.toList = ([60] : List UInt8)
        ·rw [if_pos c45] at H
         have c45b0 : (a0.toList == ([60] : List UInt8)) = true := beq_iff_eq.mpr c45; have c45b1 : (a0.toList != ([60] : List UInt8)) = false := bne_eq_false_iff_eq.mpr c45; clear c45; replace H := Option.bind_eq_some_iff.mp H; obtain ⟨t377, A460, H⟩ := H; (replace H : ((spec_l01Bool.f (decide (t377 < 0))).bind fun bt378 => (some (bt378.1, bt378.2.1, bt378.2.2))) = some (r1, r2, r3) := H); have A46 := Aside0.mk A460; clear A460; replace H := Option.bind_eq_some_iff.mp H; obtain ⟨⟨t378, t379, t380⟩, A470, H⟩ := H; replace H : (some (t378, t379, t380)) = some (r1, r2, r3) := H; have A47 := Aside0.mk A470; clear A470; simp only [Option.some.injEq, Prod.mk.injEq] at H; obtain ⟨rfl, rfl, rfl⟩ := H; have hnb48 := NB367_368.out; have hnc48 := NB368_367.out; have hnb49 := NB367_369.out; have hnc49 := NB369_367.out; obtain ⟨hcz50_0, hcz50_1, hcz50_2, hfz50_0, hfz50_1, hfz50_2⟩ := b3_ BK367; have hnb51 := NB368_369.out; have hnc51 := NB369_368.out; obtain ⟨hcz52_0, hcz52_1, hcz52_2, hfz52_0, hfz52_1, hfz52_2⟩ := b3_ BK368
         go_wp2_with (first | ((with_reducible refine gate_callee (f := 55) rfl ?_); refine gsL_ (some 43) Try.func55 #[.agg #[.int .i64 a1_0, .int .i64 a1_1, .string a1_2], .agg #[.int .i64 a2_0, .int .i64 a2_1, .string a2_2]] ?_; (with_reducible refine (spec_CompareValue.calls a1_0 a1_1 a1_2 a2_0 a2_1 a2_2 t377 _ A46.out).mono ?_); rintro e w53 ⟨rfl, hb⟩; refine ⟨_, rfl, ?_⟩; replace BK367 := bkb_ BK367 hb; replace BK368 := bkb_ BK368 hb; replace BK369 := bkb_ BK369 hb; replace HB := bs_ hb; (try clear hb)) | ((with_reducible refine gate_callee (f := 54) rfl ?_); refine gsL_ (some 45) Try.func54 #[.bool (decide (t377 < 0))] ?_; (with_reducible refine (spec_l01Bool.calls (decide (t377 < 0)) t378 t379 t380 _ A47.out).mono ?_); rintro e w54 ⟨rfl, hb⟩; refine ⟨_, rfl, ?_⟩; replace BK367 := bkb_ BK367 hb; replace BK368 := bkb_ BK368 hb; replace BK369 := bkb_ BK369 hb; replace HB := bs_ hb; (try clear hb); obtain ⟨hcz55_0, hcz55_1, hcz55_2, hfz55_0, hfz55_1, hfz55_2⟩ := b3_ BK369))
         refine bodyPost_ret (results_cell_row rfl _ _ gb369 25 #[.int .i64 t378, .int .i64 t379, .string t380] (0, 0) _ rfl (bp3_ (bkx_ BK369.out)) Try.underlying25 rfl (by kernel_rfl)) rfl ?_; exact ⟨er_, bb_⟩
        ·rw [if_neg c45] at H
         have c45b0 : (a0.toList == ([60] : List UInt8)) = false := beq_eq_false_iff_ne.mpr c45; have c45b1 : (a0.toList != ([60] : List UInt8)) = true := bne_iff_ne.mpr c45; have HC56 := Aside0.mk H; clear H
         go_upto_region 9 with (fail)
         go_cut [46] (fun v46 wc => ∃ (kq : Nat) (x46_55 : Bool), v46 = .bool x46_55 ∧ Aside0 (spec_Reckon.j2 kq a0 x46_55 a1_0 a1_1 a1_2 a2_0 a2_1 a2_2 = some (r1, r2, r3)) ∧ Aside0 (kq ≤ kj17) ∧ Aside0 (wc.heap[gb367]? = some (.cells #[.int .i64 a1_0, .int .i64 a1_1, .string a1_2] 25 (0, 0))) ∧ Aside0 (wc.heap[gb368]? = some (.cells #[.int .i64 a2_0, .int .i64 a2_1, .string a2_2] 25 (0, 0))) ∧ Aside0 (wc.heap[gb369]? = some (.cells #[.int .i64 0, .int .i64 0, .string (⟨#[]⟩ : ByteArray)] 25 (0, 0))) ∧ Aside0 (Below w.heap.size w wc))
         case first =>
          have H := HC56.out; clear HC56
          by_cases c57 : a0.toList = ([126] : List UInt8)
          ·rw [if_pos c57] at H
           have c57b0 : (a0.toList == ([126] : List UInt8)) = true := beq_iff_eq.mpr c57; have c57b1 : (a0.toList != ([126] : List UInt8)) = false := bne_eq_false_iff_eq.mpr c57; clear c57; (first | rw [c57b0] | (simp only [i64_w, i32_w]; rw [c57b0]) | skip); have H' := Aside0.mk H; clear H; have hnb58 := NB367_368.out; have hnc58 := NB368_367.out; have hnb59 := NB367_369.out; have hnc59 := NB369_367.out; obtain ⟨hcz60_0, hcz60_1, hcz60_2, hfz60_0, hfz60_1, hfz60_2⟩ := b3_ BK367
           go_wp2
           go_meet
           case rel => exact ⟨_, ((a1_0 == 3)), rs_, H', ⟨by have := HJ3.out; have := HJ17.out; first | omega | exact Nat.le_refl _⟩, ⟨bkx_ BK367.out⟩, ⟨bkx_ BK368.out⟩, ⟨bkx_ BK369.out⟩, ⟨bb_⟩⟩
          ·rw [if_neg c57] at H
           have c57b0 : (a0.toList == ([126] : List UInt8)) = false := beq_eq_false_iff_ne.mpr c57; have c57b1 : (a0.toList != ([126] : List UInt8)) = true := bne_iff_ne.mpr c57; (first | rw [c57b0] | (simp only [i64_w, i32_w]; rw [c57b0]) | skip); have H' := Aside0.mk H; clear H
           go_wp2
           go_meet
           case rel => exact ⟨_, (false), rs_, H', ⟨by have := HJ3.out; have := HJ17.out; first | omega | exact Nat.le_refl _⟩, ⟨bkx_ BK367.out⟩, ⟨bkx_ BK368.out⟩, ⟨bkx_ BK369.out⟩, ⟨bb_⟩⟩
         case rest =>
          clear HC56; (try clear c1); (try clear c2); (try clear p2); (try clear c3); (try clear c4); (try clear c5); (try clear c8); (try clear c8b0); (try clear c8b1); (try clear c9); (try clear c11); (try clear c12); (try clear c14); (try clear c19); (try clear c19b0); (try clear c19b1); (try clear c20); (try clear c21); (try clear c23); (try clear c25); (try clear c26); (try clear c28); (try clear c30); (try clear c31); (try clear c32); (try clear c34); (try clear c34b0); (try clear c34b1); (try clear c37); (try clear c38); (try clear c40); (try clear c45); (try clear c45b0); (try clear c45b1); (try clear c48); (try clear c49); (try clear c51); (try clear c53); (try clear c54); (try clear c55); (try clear c57); (try clear c57b0); (try clear c57b1); (try clear c58); (try clear c59); (try clear hcz13_0); (try clear hcz13_1); (try clear hcz13_2); (try clear hcz15_0); (try clear hcz15_1); (try clear hcz15_2); (try clear hcz17_0); (try clear hcz17_1); (try clear hcz17_2); (try clear hcz22_0); (try clear hcz22_1); (try clear hcz22_2); (try clear hcz24_0); (try clear hcz24_1); (try clear hcz24_2); (try clear hcz27_0); (try clear hcz27_1); (try clear hcz27_2); (try clear hcz29_0); (try clear hcz29_1); (try clear hcz29_2); (try clear hcz33_0); (try clear hcz33_1); (try clear hcz33_2); (try clear hcz39_0); (try clear hcz39_1); (try clear hcz39_2); (try clear hcz41_0); (try clear hcz41_1); (try clear hcz41_2); (try clear hcz44_0); (try clear hcz44_1); (try clear hcz44_2); (try clear hcz50_0); (try clear hcz50_1); (try clear hcz50_2); (try clear hcz52_0); (try clear hcz52_1); (try clear hcz52_2); (try clear hcz55_0); (try clear hcz55_1); (try clear hcz55_2); (try clear hcz60_0); (try clear hcz60_1); (try clear hcz60_2); (try clear hfz13_0); (try clear hfz13_1); (try clear hfz13_2); (try clear hfz15_0); (try clear hfz15_1); (try clear hfz15_2); (try clear hfz17_0); (try clear hfz17_1); (try clear hfz17_2); (try clear hfz22_0); (try clear hfz22_1); (try clear hfz22_2); (try clear hfz24_0); (try clear hfz24_1); (try clear hfz24_2); (try clear hfz27_0); (try clear hfz27_1); (try clear hfz27_2); (try clear hfz29_0); (try clear hfz29_1); (try clear hfz29_2); (try clear hfz33_0); (try clear hfz33_1); (try clear hfz33_2); (try clear hfz39_0); (try clear hfz39_1); (try clear hfz39_2); (try clear hfz41_0); (try clear hfz41_1); (try clear hfz41_2); (try clear hfz44_0); (try clear hfz44_1); (try clear hfz44_2); (try clear hfz50_0); (try clear hfz50_1); (try clear hfz50_2); (try clear hfz52_0); (try clear hfz52_1); (try clear hfz52_2); (try clear hfz55_0); (try clear hfz55_1); (try clear hfz55_2); (try clear hfz60_0); (try clear hfz60_1); (try clear hfz60_2); (try clear p2); obtain ⟨kq, x46_55, rfl, HA, HJ55, BK367, BK368, BK369, HB⟩ := hcut
          cases kq with
          | zero => exact absurd HA.out (by simp [spec_Reckon.j2])
          | succ kj55 =>
           have H := HA.out; clear HA; simp only [spec_Reckon.j2] at H
           by_cases c61 : x46_55 = true
           ·subst c61
            (have H1 : ((spec_l01Holds.f kj55 a1_2 a2_2).bind fun t381 => ((spec_l01Bool.f t381).bind fun bt382 => (some (bt382.1, bt382.2.1, bt382.2.2)))) = some (r1, r2, r3) := by rw [if_pos rfl] at H; exact H); clear H; have H := H1; clear H1; replace H := Option.bind_eq_some_iff.mp H; obtain ⟨t381, A620, H⟩ := H; (replace H : ((spec_l01Bool.f t381).bind fun bt382 => (some (bt382.1, bt382.2.1, bt382.2.2))) = some (r1, r2, r3) := H); have A62 := Aside0.mk A620; clear A620; replace H := Option.bind_eq_some_iff.mp H; obtain ⟨⟨t382, t383, t384⟩, A630, H⟩ := H; replace H : (some (t382, t383, t384)) = some (r1, r2, r3) := H; have A63 := Aside0.mk A630; clear A630; simp only [Option.some.injEq, Prod.mk.injEq] at H; obtain ⟨rfl, rfl, rfl⟩ := H; have hnb64 := NB367_368.out; have hnc64 := NB368_367.out; have hnb65 := NB367_369.out; have hnc65 := NB369_367.out; obtain ⟨hcz66_0, hcz66_1, hcz66_2, hfz66_0, hfz66_1, hfz66_2⟩ := b3_ BK367; have hnb67 := NB368_369.out; have hnc67 := NB369_368.out; obtain ⟨hcz68_0, hcz68_1, hcz68_2, hfz68_0, hfz68_1, hfz68_2⟩ := b3_ BK368
            go_wp2_with (first | ((with_reducible refine gate_callee (f := 56) rfl ?_); refine gsL_ (some 58) Try.func56 #[.string a1_2, .string a2_2] ?_; (with_reducible refine (spec_l01Holds.calls kj55 a1_2 a2_2 t381 _ A62.out).mono ?_); rintro e w' ⟨rfl, ⟨nd, rfl⟩⟩; refine ⟨_, rfl, ?_⟩; (try (rw [drewN_self wc]; generalize hq_ : World.drewN wc _ = wc; have n0_ : Aside0 (wc.heap[gb367]? = some (.cells #[.int .i64 a1_0, .int .i64 a1_1, .string a1_2] 25 (0, 0))) := ⟨by rw [← hq_]; exact (bkx_ BK367.out)⟩; have n1_ : Aside0 (wc.heap[gb368]? = some (.cells #[.int .i64 a2_0, .int .i64 a2_1, .string a2_2] 25 (0, 0))) := ⟨by rw [← hq_]; exact (bkx_ BK368.out)⟩; have n2_ : Aside0 (wc.heap[gb369]? = some (.cells #[.int .i64 0, .int .i64 0, .string (⟨#[]⟩ : ByteArray)] 25 (0, 0))) := ⟨by rw [← hq_]; exact (bkx_ BK369.out)⟩; have n3_ : Aside0 (Below w.heap.size w wc) := ⟨by rw [← hq_]; exact bb_⟩; clear BK367 BK368 BK369 HB hq_; have BK367 := n0_; have BK368 := n1_; have BK369 := n2_; have HB := n3_; clear n0_ n1_ n2_ n3_))) | ((with_reducible refine gate_callee (f := 54) rfl ?_); refine gsL_ (some 59) Try.func54 #[.bool t381] ?_; (with_reducible refine (spec_l01Bool.calls t381 t382 t383 t384 _ A63.out).mono ?_); rintro e w69 ⟨rfl, hb⟩; refine ⟨_, rfl, ?_⟩; replace BK367 := bkb_ BK367 hb; replace BK368 := bkb_ BK368 hb; replace BK369 := bkb_ BK369 hb; replace HB := bs_ hb; (try clear hb); obtain ⟨hcz70_0, hcz70_1, hcz70_2, hfz70_0, hfz70_1, hfz70_2⟩ := b3_ BK369))
            refine bodyPost_ret (results_cell_row rfl _ _ gb369 25 #[.int .i64 t382, .int .i64 t383, .string t384] (0, 0) _ rfl (bp3_ (bkx_ BK369.out)) Try.underlying25 rfl (by kernel_rfl)) rfl ?_; exact ⟨er_, bb_⟩
           ·replace c61 := Bool.eq_false_iff.mpr c61
            subst c61; (have H1 : (if a1_0 = 1 then ((spec_l01Arith.f kj55 a0 a1_1 a2_1).bind fun bt385 => (some (bt385.1, bt385.2.1, bt385.2.2))) else (some (0, 0, (⟨#[]⟩ : ByteArray)))) = some (r1, r2, r3) := by rw [if_neg (show ¬ (false = true) by decide)] at H; exact H); clear H; have H := H1; clear H1
            by_cases c71 : a1_0 = 1
            ·rw [if_pos c71] at H
             have c71b0 : (a1_0 == 1) = true := beq_iff_eq.mpr c71; have c71b1 : (a1_0 != 1) = false := bne_eq_false_iff_eq.mpr c71; clear c71; replace H := Option.bind_eq_some_iff.mp H; obtain ⟨⟨t385, t386, t387⟩, A720, H⟩ := H; replace H : (some (t385, t386, t387)) = some (r1, r2, r3) := H; have A72 := Aside0.mk A720; clear A720; simp only [Option.some.injEq, Prod.mk.injEq] at H; obtain ⟨rfl, rfl, rfl⟩ := H; have hnb73 := NB367_368.out; have hnc73 := NB368_367.out; have hnb74 := NB367_369.out; have hnc74 := NB369_367.out; obtain ⟨hcz75_0, hcz75_1, hcz75_2, hfz75_0, hfz75_1, hfz75_2⟩ := b3_ BK367; have hnb76 := NB368_369.out; have hnc76 := NB369_368.out; obtain ⟨hcz77_0, hcz77_1, hcz77_2, hfz77_0, hfz77_1, hfz77_2⟩ := b3_ BK368
             go_wp2_with (first | ((with_reducible refine gate_callee (f := 57) rfl ?_); refine gsL_ (some 69) Try.func57 #[.string a0, .int .i64 a1_1, .int .i64 a2_1] ?_; (with_reducible refine (spec_l01Arith.calls kj55 a0 a1_1 a2_1 t385 t386 t387 _ A72.out).mono ?_); rintro e w78 ⟨rfl, hb⟩; refine ⟨_, rfl, ?_⟩; replace BK367 := bkb_ BK367 hb; replace BK368 := bkb_ BK368 hb; replace BK369 := bkb_ BK369 hb; replace HB := bs_ hb; (try clear hb); obtain ⟨hcz79_0, hcz79_1, hcz79_2, hfz79_0, hfz79_1, hfz79_2⟩ := b3_ BK369))
             refine bodyPost_ret (results_cell_row rfl _ _ gb369 25 #[.int .i64 t385, .int .i64 t386, .string t387] (0, 0) _ rfl (bp3_ (bkx_ BK369.out)) Try.underlying25 rfl (by kernel_rfl)) rfl ?_; exact ⟨er_, bb_⟩
            ·rw [if_neg c71] at H
             have c71b0 : (a1_0 == 1) = false := beq_eq_false_iff_ne.mpr c71; have c71b1 : (a1_0 != 1) = true := bne_iff_ne.mpr c71; simp only [Option.some.injEq, Prod.mk.injEq] at H; obtain ⟨rfl, rfl, rfl⟩ := H; have hnb80 := NB367_368.out; have hnc80 := NB368_367.out; have hnb81 := NB367_369.out; have hnc81 := NB369_367.out; obtain ⟨hcz82_0, hcz82_1, hcz82_2, hfz82_0, hfz82_1, hfz82_2⟩ := b3_ BK367; have hnb83 := NB369_368.out; have hnc83 := NB368_369.out; obtain ⟨hcz84_0, hcz84_1, hcz84_2, hfz84_0, hfz84_1, hfz84_2⟩ := b3_ BK369
             go_wp2
             refine bodyPost_ret (results_cell_row rfl _ _ gb369 25 #[.int .i64 0, .int .i64 0, .string (⟨#[]⟩ : ByteArray)] (0, 0) _ rfl (bp3_ (bkx_ BK369.out)) Try.underlying25 rfl (by kernel_rfl)) rfl ?_; exact ⟨er_, bb_⟩

/-! ### impl_Not: function 12 -/
def impl_Not.f (a0_0 : Int) (a0_1 : Int) (a0_2 : ByteArray) : Option (Int × Int × ByteArray) := if a0_0 = 2 then ((impl_flag.f (a0_1 == 0)).bind fun bt390 => (some (bt390.1, bt390.2.1, bt390.2.2))) else ((impl_null.f).bind fun bt393 => (some (bt393.1, bt393.2.1, bt393.2.2)))
set_option maxHeartbeats 8000000 in
set_option maxRecDepth 100000 in
theorem impl_Not.calls (a0_0 : Int) (a0_1 : Int) (a0_2 : ByteArray) (r1 : Int) (r2 : Int) (r3 : ByteArray) (w : World) (h : impl_Not.f a0_0 a0_1 a0_2 = some (r1, r2, r3)) :
  Calls Try.prog 12 #[.agg #[.int .i64 a0_0, .int .i64 a0_1, .string a0_2]] w fun e w' => e = .returned (.agg #[.int .i64 r1, .int .i64 r2, .string r3]) ∧ Below w.heap.size w w' := by
 have hu25 := Try.underlying25
 have HB := Aside0.mk (Below.refl w.heap.size w)
 have H : (if a0_0 = 2 then ((impl_flag.f (a0_1 == 0)).bind fun bt390 => (some (bt390.1, bt390.2.1, bt390.2.2))) else ((impl_null.f).bind fun bt393 => (some (bt393.1, bt393.2.1, bt393.2.2)))) = some (r1, r2, r3) := h
 clear h
 by_cases c2 : a0_0 = 2
 ·rw [if_pos c2] at H
  have c2b0 : (a0_0 == 2) = true := beq_iff_eq.mpr c2; have c2b1 : (a0_0 != 2) = false := bne_eq_false_iff_eq.mpr c2; clear c2; replace H := Option.bind_eq_some_iff.mp H; obtain ⟨⟨t390, t391, t392⟩, A30, H⟩ := H; replace H : (some (t390, t391, t392)) = some (r1, r2, r3) := H; have A3 := Aside0.mk A30; clear A30; simp only [Option.some.injEq, Prod.mk.injEq] at H; obtain ⟨rfl, rfl, rfl⟩ := H
  go_enter Try.func12, Try.ntmps12
  go_wp2_with (first | ((with_reducible refine gate_dst (N := 1) rfl ?_); refine bx_ 1 #[.int .i64 a0_0, .int .i64 a0_1, .string a0_2] 25 ?_; intro gb388 hg w4 hbox hb; have BK388 := Aside0.mk (hbox); have GW388 := gw_ hg; have GE388 := gw_ hg; replace HB := bs_ hb; clear hb hbox hg) | ((with_reducible refine gate_dst (N := 2) rfl ?_); refine bx_ 2 #[.int .i64 0, .int .i64 0, .string (⟨#[]⟩ : ByteArray)] 25 ?_; intro gb389 hg w5 hbox hb; have BK389 := Aside0.mk (hbox); have GW389 := gw_ hg; have GE389 := gw_ hg; have NB388_389 := nl_ hg BK388; have NB389_388 := ng_ hg BK388; replace BK388 := bkb_ BK388 hb; replace HB := bs_ hb; clear hb hbox hg; have hnb6 := NB388_389.out; have hnc6 := NB389_388.out; obtain ⟨hcz7_0, hcz7_1, hcz7_2, hfz7_0, hfz7_1, hfz7_2⟩ := b3_ BK388) | ((with_reducible refine gate_callee (f := 50) rfl ?_); refine gsL_ (some 10) Try.func50 #[.bool (a0_1 == 0)] ?_; (with_reducible refine (impl_flag.calls (a0_1 == 0) t390 t391 t392 _ A3.out).mono ?_); rintro e w8 ⟨rfl, hb⟩; refine ⟨_, rfl, ?_⟩; replace BK388 := bkb_ BK388 hb; replace BK389 := bkb_ BK389 hb; replace HB := bs_ hb; (try clear hb); obtain ⟨hcz9_0, hcz9_1, hcz9_2, hfz9_0, hfz9_1, hfz9_2⟩ := b3_ BK389))
  refine bodyPost_ret (results_cell_row rfl _ _ gb389 25 #[.int .i64 t390, .int .i64 t391, .string t392] (0, 0) _ rfl (bp3_ (bkx_ BK389.out)) Try.underlying25 rfl (by kernel_rfl)) rfl ?_; exact ⟨er_, bb_⟩
 ·rw [if_neg c2] at H
  have c2b0 : (a0_0 == 2) = false := beq_eq_false_iff_ne.mpr c2; have c2b1 : (a0_0 != 2) = true := bne_iff_ne.mpr c2; replace H := Option.bind_eq_some_iff.mp H; obtain ⟨⟨t393, t394, t395⟩, A100, H⟩ := H; replace H : (some (t393, t394, t395)) = some (r1, r2, r3) := H; have A10 := Aside0.mk A100; clear A100; simp only [Option.some.injEq, Prod.mk.injEq] at H; obtain ⟨rfl, rfl, rfl⟩ := H
  go_enter Try.func12, Try.ntmps12
  go_wp2_with (first | ((with_reducible refine gate_dst (N := 1) rfl ?_); refine bx_ 1 #[.int .i64 a0_0, .int .i64 a0_1, .string a0_2] 25 ?_; intro gb388 hg w11 hbox hb; have BK388 := Aside0.mk (hbox); have GW388 := gw_ hg; have GE388 := gw_ hg; replace HB := bs_ hb; clear hb hbox hg) | ((with_reducible refine gate_dst (N := 2) rfl ?_); refine bx_ 2 #[.int .i64 0, .int .i64 0, .string (⟨#[]⟩ : ByteArray)] 25 ?_; intro gb389 hg w12 hbox hb; have BK389 := Aside0.mk (hbox); have GW389 := gw_ hg; have GE389 := gw_ hg; have NB388_389 := nl_ hg BK388; have NB389_388 := ng_ hg BK388; replace BK388 := bkb_ BK388 hb; replace HB := bs_ hb; clear hb hbox hg; have hnb13 := NB388_389.out; have hnc13 := NB389_388.out; obtain ⟨hcz14_0, hcz14_1, hcz14_2, hfz14_0, hfz14_1, hfz14_2⟩ := b3_ BK388) | ((with_reducible refine gate_callee (f := 46) rfl ?_); refine gsL_ (some 6) Try.func46 #[] ?_; (with_reducible refine (impl_null.calls  t393 t394 t395 _ A10.out).mono ?_); rintro e w15 ⟨rfl, hb⟩; refine ⟨_, rfl, ?_⟩; replace BK388 := bkb_ BK388 hb; replace BK389 := bkb_ BK389 hb; replace HB := bs_ hb; (try clear hb); obtain ⟨hcz16_0, hcz16_1, hcz16_2, hfz16_0, hfz16_1, hfz16_2⟩ := b3_ BK389))
  refine bodyPost_ret (results_cell_row rfl _ _ gb389 25 #[.int .i64 t393, .int .i64 t394, .string t395] (0, 0) _ rfl (bp3_ (bkx_ BK389.out)) Try.underlying25 rfl (by kernel_rfl)) rfl ?_; exact ⟨er_, bb_⟩

/-! ### spec_Not: function 13 -/
def spec_Not.f (a0_0 : Int) (a0_1 : Int) (a0_2 : ByteArray) : Option (Int × Int × ByteArray) := if a0_0 = 2 then ((spec_l01Bool.f (a0_1 == 0)).bind fun bt398 => (some (bt398.1, bt398.2.1, bt398.2.2))) else (some (0, 0, (⟨#[]⟩ : ByteArray)))
set_option maxHeartbeats 8000000 in
set_option maxRecDepth 100000 in
theorem spec_Not.calls (a0_0 : Int) (a0_1 : Int) (a0_2 : ByteArray) (r1 : Int) (r2 : Int) (r3 : ByteArray) (w : World) (h : spec_Not.f a0_0 a0_1 a0_2 = some (r1, r2, r3)) :
  Calls Try.prog 13 #[.agg #[.int .i64 a0_0, .int .i64 a0_1, .string a0_2]] w fun e w' => e = .returned (.agg #[.int .i64 r1, .int .i64 r2, .string r3]) ∧ Below w.heap.size w w' := by
 have hu25 := Try.underlying25
 have HB := Aside0.mk (Below.refl w.heap.size w)
 have H : (if a0_0 = 2 then ((spec_l01Bool.f (a0_1 == 0)).bind fun bt398 => (some (bt398.1, bt398.2.1, bt398.2.2))) else (some (0, 0, (⟨#[]⟩ : ByteArray)))) = some (r1, r2, r3) := h
 clear h
 by_cases c2 : a0_0 = 2
 ·rw [if_pos c2] at H
  have c2b0 : (a0_0 == 2) = true := beq_iff_eq.mpr c2; have c2b1 : (a0_0 != 2) = false := bne_eq_false_iff_eq.mpr c2; clear c2; replace H := Option.bind_eq_some_iff.mp H; obtain ⟨⟨t398, t399, t400⟩, A30, H⟩ := H; replace H : (some (t398, t399, t400)) = some (r1, r2, r3) := H; have A3 := Aside0.mk A30; clear A30; simp only [Option.some.injEq, Prod.mk.injEq] at H; obtain ⟨rfl, rfl, rfl⟩ := H
  go_enter Try.func13, Try.ntmps13
  go_wp2_with (first | ((with_reducible refine gate_dst (N := 1) rfl ?_); refine bx_ 1 #[.int .i64 a0_0, .int .i64 a0_1, .string a0_2] 25 ?_; intro gb396 hg w4 hbox hb; have BK396 := Aside0.mk (hbox); have GW396 := gw_ hg; have GE396 := gw_ hg; replace HB := bs_ hb; clear hb hbox hg) | ((with_reducible refine gate_dst (N := 2) rfl ?_); refine bx_ 2 #[.int .i64 0, .int .i64 0, .string (⟨#[]⟩ : ByteArray)] 25 ?_; intro gb397 hg w5 hbox hb; have BK397 := Aside0.mk (hbox); have GW397 := gw_ hg; have GE397 := gw_ hg; have NB396_397 := nl_ hg BK396; have NB397_396 := ng_ hg BK396; replace BK396 := bkb_ BK396 hb; replace HB := bs_ hb; clear hb hbox hg; have hnb6 := NB396_397.out; have hnc6 := NB397_396.out; obtain ⟨hcz7_0, hcz7_1, hcz7_2, hfz7_0, hfz7_1, hfz7_2⟩ := b3_ BK396) | ((with_reducible refine gate_callee (f := 54) rfl ?_); refine gsL_ (some 10) Try.func54 #[.bool (a0_1 == 0)] ?_; (with_reducible refine (spec_l01Bool.calls (a0_1 == 0) t398 t399 t400 _ A3.out).mono ?_); rintro e w8 ⟨rfl, hb⟩; refine ⟨_, rfl, ?_⟩; replace BK396 := bkb_ BK396 hb; replace BK397 := bkb_ BK397 hb; replace HB := bs_ hb; (try clear hb); obtain ⟨hcz9_0, hcz9_1, hcz9_2, hfz9_0, hfz9_1, hfz9_2⟩ := b3_ BK397))
  refine bodyPost_ret (results_cell_row rfl _ _ gb397 25 #[.int .i64 t398, .int .i64 t399, .string t400] (0, 0) _ rfl (bp3_ (bkx_ BK397.out)) Try.underlying25 rfl (by kernel_rfl)) rfl ?_; exact ⟨er_, bb_⟩
 ·rw [if_neg c2] at H
  have c2b0 : (a0_0 == 2) = false := beq_eq_false_iff_ne.mpr c2; have c2b1 : (a0_0 != 2) = true := bne_iff_ne.mpr c2; simp only [Option.some.injEq, Prod.mk.injEq] at H; obtain ⟨rfl, rfl, rfl⟩ := H
  go_enter Try.func13, Try.ntmps13
  go_wp2_with (first | ((with_reducible refine gate_dst (N := 1) rfl ?_); refine bx_ 1 #[.int .i64 a0_0, .int .i64 a0_1, .string a0_2] 25 ?_; intro gb396 hg w10 hbox hb; have BK396 := Aside0.mk (hbox); have GW396 := gw_ hg; have GE396 := gw_ hg; replace HB := bs_ hb; clear hb hbox hg) | ((with_reducible refine gate_dst (N := 2) rfl ?_); refine bx_ 2 #[.int .i64 0, .int .i64 0, .string (⟨#[]⟩ : ByteArray)] 25 ?_; intro gb397 hg w11 hbox hb; have BK397 := Aside0.mk (hbox); have GW397 := gw_ hg; have GE397 := gw_ hg; have NB396_397 := nl_ hg BK396; have NB397_396 := ng_ hg BK396; replace BK396 := bkb_ BK396 hb; replace HB := bs_ hb; clear hb hbox hg; have hnb12 := NB396_397.out; have hnc12 := NB397_396.out; obtain ⟨hcz13_0, hcz13_1, hcz13_2, hfz13_0, hfz13_1, hfz13_2⟩ := b3_ BK396; obtain ⟨hcz14_0, hcz14_1, hcz14_2, hfz14_0, hfz14_1, hfz14_2⟩ := b3_ BK397))
  refine bodyPost_ret (results_cell_row rfl _ _ gb397 25 #[.int .i64 0, .int .i64 0, .string (⟨#[]⟩ : ByteArray)] (0, 0) _ rfl (bp3_ (bkx_ BK397.out)) Try.underlying25 rfl (by kernel_rfl)) rfl ?_; exact ⟨er_, bb_⟩

/-! ### impl_IsNull: function 14 -/
def impl_IsNull.f (a0_0 : Int) (a0_1 : Int) (a0_2 : ByteArray) : Option (Int × Int × ByteArray) := (impl_flag.f (a0_0 == 0)).bind fun bt403 => (some (bt403.1, bt403.2.1, bt403.2.2))
set_option maxHeartbeats 8000000 in
set_option maxRecDepth 100000 in
theorem impl_IsNull.calls (a0_0 : Int) (a0_1 : Int) (a0_2 : ByteArray) (r1 : Int) (r2 : Int) (r3 : ByteArray) (w : World) (h : impl_IsNull.f a0_0 a0_1 a0_2 = some (r1, r2, r3)) :
  Calls Try.prog 14 #[.agg #[.int .i64 a0_0, .int .i64 a0_1, .string a0_2]] w fun e w' => e = .returned (.agg #[.int .i64 r1, .int .i64 r2, .string r3]) ∧ Below w.heap.size w w' := by
 have hu25 := Try.underlying25
 have HB := Aside0.mk (Below.refl w.heap.size w)
 have H : ((impl_flag.f (a0_0 == 0)).bind fun bt403 => (some (bt403.1, bt403.2.1, bt403.2.2))) = some (r1, r2, r3) := h
 clear h
 replace H := Option.bind_eq_some_iff.mp H
 obtain ⟨⟨t403, t404, t405⟩, A20, H⟩ := H
 replace H : (some (t403, t404, t405)) = some (r1, r2, r3) := H
 have A2 := Aside0.mk A20
 clear A20
 simp only [Option.some.injEq, Prod.mk.injEq] at H
 obtain ⟨rfl, rfl, rfl⟩ := H
 go_enter Try.func14, Try.ntmps14
 go_wp2_with (first | ((with_reducible refine gate_dst (N := 1) rfl ?_); refine bx_ 1 #[.int .i64 a0_0, .int .i64 a0_1, .string a0_2] 25 ?_; intro gb401 hg w3 hbox hb; have BK401 := Aside0.mk (hbox); have GW401 := gw_ hg; have GE401 := gw_ hg; replace HB := bs_ hb; clear hb hbox hg) | ((with_reducible refine gate_dst (N := 2) rfl ?_); refine bx_ 2 #[.int .i64 0, .int .i64 0, .string (⟨#[]⟩ : ByteArray)] 25 ?_; intro gb402 hg w4 hbox hb; have BK402 := Aside0.mk (hbox); have GW402 := gw_ hg; have GE402 := gw_ hg; have NB401_402 := nl_ hg BK401; have NB402_401 := ng_ hg BK401; replace BK401 := bkb_ BK401 hb; replace HB := bs_ hb; clear hb hbox hg; have hnb5 := NB401_402.out; have hnc5 := NB402_401.out; obtain ⟨hcz6_0, hcz6_1, hcz6_2, hfz6_0, hfz6_1, hfz6_2⟩ := b3_ BK401) | ((with_reducible refine gate_callee (f := 50) rfl ?_); refine gsL_ (some 6) Try.func50 #[.bool (a0_0 == 0)] ?_; (with_reducible refine (impl_flag.calls (a0_0 == 0) t403 t404 t405 _ A2.out).mono ?_); rintro e w7 ⟨rfl, hb⟩; refine ⟨_, rfl, ?_⟩; replace BK401 := bkb_ BK401 hb; replace BK402 := bkb_ BK402 hb; replace HB := bs_ hb; (try clear hb); obtain ⟨hcz8_0, hcz8_1, hcz8_2, hfz8_0, hfz8_1, hfz8_2⟩ := b3_ BK402))
 refine bodyPost_ret (results_cell_row rfl _ _ gb402 25 #[.int .i64 t403, .int .i64 t404, .string t405] (0, 0) _ rfl (bp3_ (bkx_ BK402.out)) Try.underlying25 rfl (by kernel_rfl)) rfl ?_
 exact ⟨er_, bb_⟩

/-! ### spec_IsNull: function 15 -/
def spec_IsNull.f (a0_0 : Int) (a0_1 : Int) (a0_2 : ByteArray) : Option (Int × Int × ByteArray) := (spec_l01Bool.f (a0_0 == 0)).bind fun bt408 => (some (bt408.1, bt408.2.1, bt408.2.2))
set_option maxHeartbeats 8000000 in
set_option maxRecDepth 100000 in
theorem spec_IsNull.calls (a0_0 : Int) (a0_1 : Int) (a0_2 : ByteArray) (r1 : Int) (r2 : Int) (r3 : ByteArray) (w : World) (h : spec_IsNull.f a0_0 a0_1 a0_2 = some (r1, r2, r3)) :
  Calls Try.prog 15 #[.agg #[.int .i64 a0_0, .int .i64 a0_1, .string a0_2]] w fun e w' => e = .returned (.agg #[.int .i64 r1, .int .i64 r2, .string r3]) ∧ Below w.heap.size w w' := by
 have hu25 := Try.underlying25
 have HB := Aside0.mk (Below.refl w.heap.size w)
 have H : ((spec_l01Bool.f (a0_0 == 0)).bind fun bt408 => (some (bt408.1, bt408.2.1, bt408.2.2))) = some (r1, r2, r3) := h
 clear h
 replace H := Option.bind_eq_some_iff.mp H
 obtain ⟨⟨t408, t409, t410⟩, A20, H⟩ := H
 replace H : (some (t408, t409, t410)) = some (r1, r2, r3) := H
 have A2 := Aside0.mk A20
 clear A20
 simp only [Option.some.injEq, Prod.mk.injEq] at H
 obtain ⟨rfl, rfl, rfl⟩ := H
 go_enter Try.func15, Try.ntmps15
 go_wp2_with (first | ((with_reducible refine gate_dst (N := 1) rfl ?_); refine bx_ 1 #[.int .i64 a0_0, .int .i64 a0_1, .string a0_2] 25 ?_; intro gb406 hg w3 hbox hb; have BK406 := Aside0.mk (hbox); have GW406 := gw_ hg; have GE406 := gw_ hg; replace HB := bs_ hb; clear hb hbox hg) | ((with_reducible refine gate_dst (N := 2) rfl ?_); refine bx_ 2 #[.int .i64 0, .int .i64 0, .string (⟨#[]⟩ : ByteArray)] 25 ?_; intro gb407 hg w4 hbox hb; have BK407 := Aside0.mk (hbox); have GW407 := gw_ hg; have GE407 := gw_ hg; have NB406_407 := nl_ hg BK406; have NB407_406 := ng_ hg BK406; replace BK406 := bkb_ BK406 hb; replace HB := bs_ hb; clear hb hbox hg; have hnb5 := NB406_407.out; have hnc5 := NB407_406.out; obtain ⟨hcz6_0, hcz6_1, hcz6_2, hfz6_0, hfz6_1, hfz6_2⟩ := b3_ BK406) | ((with_reducible refine gate_callee (f := 54) rfl ?_); refine gsL_ (some 6) Try.func54 #[.bool (a0_0 == 0)] ?_; (with_reducible refine (spec_l01Bool.calls (a0_0 == 0) t408 t409 t410 _ A2.out).mono ?_); rintro e w7 ⟨rfl, hb⟩; refine ⟨_, rfl, ?_⟩; replace BK406 := bkb_ BK406 hb; replace BK407 := bkb_ BK407 hb; replace HB := bs_ hb; (try clear hb); obtain ⟨hcz8_0, hcz8_1, hcz8_2, hfz8_0, hfz8_1, hfz8_2⟩ := b3_ BK407))
 refine bodyPost_ret (results_cell_row rfl _ _ gb407 25 #[.int .i64 t408, .int .i64 t409, .string t410] (0, 0) _ rfl (bp3_ (bkx_ BK407.out)) Try.underlying25 rfl (by kernel_rfl)) rfl ?_
 exact ⟨er_, bb_⟩

/-! ### impl_IsTrue: function 16 -/
def impl_IsTrue.f (a0_0 : Int) (a0_1 : Int) (a0_2 : ByteArray) : Option (Bool) := if a0_0 = 2 then (some (a0_1 == 1)) else (some false)
set_option maxHeartbeats 8000000 in
set_option maxRecDepth 100000 in
theorem impl_IsTrue.calls (a0_0 : Int) (a0_1 : Int) (a0_2 : ByteArray) (r : Bool) (w : World) (h : impl_IsTrue.f a0_0 a0_1 a0_2 = some r) :
  Calls Try.prog 16 #[.agg #[.int .i64 a0_0, .int .i64 a0_1, .string a0_2]] w fun e w' => e = .returned (.bool r) ∧ Below w.heap.size w w' := by
 have hu25 := Try.underlying25
 have HB := Aside0.mk (Below.refl w.heap.size w)
 have H : (if a0_0 = 2 then (some (a0_1 == 1)) else (some false)) = some r := h
 clear h
 by_cases c2 : a0_0 = 2
 ·rw [if_pos c2] at H
  have c2b0 : (a0_0 == 2) = true := beq_iff_eq.mpr c2; have c2b1 : (a0_0 != 2) = false := bne_eq_false_iff_eq.mpr c2; clear c2; obtain rfl := Option.some.inj H
  go_enter Try.func16, Try.ntmps16
  go_wp2_with (first | ((with_reducible refine gate_dst (N := 1) rfl ?_); refine bx_ 1 #[.int .i64 a0_0, .int .i64 a0_1, .string a0_2] 25 ?_; intro gb411 hg w3 hbox hb; have BK411 := Aside0.mk (hbox); have GW411 := gw_ hg; have GE411 := gw_ hg; replace HB := bs_ hb; clear hb hbox hg; obtain ⟨hcz4_0, hcz4_1, hcz4_2, hfz4_0, hfz4_1, hfz4_2⟩ := b3_ BK411))
  go_ret
  exact ⟨er_, bb_⟩
 ·rw [if_neg c2] at H
  have c2b0 : (a0_0 == 2) = false := beq_eq_false_iff_ne.mpr c2; have c2b1 : (a0_0 != 2) = true := bne_iff_ne.mpr c2; obtain rfl := Option.some.inj H
  go_enter Try.func16, Try.ntmps16
  go_wp2_with (first | ((with_reducible refine gate_dst (N := 1) rfl ?_); refine bx_ 1 #[.int .i64 a0_0, .int .i64 a0_1, .string a0_2] 25 ?_; intro gb411 hg w5 hbox hb; have BK411 := Aside0.mk (hbox); have GW411 := gw_ hg; have GE411 := gw_ hg; replace HB := bs_ hb; clear hb hbox hg; obtain ⟨hcz6_0, hcz6_1, hcz6_2, hfz6_0, hfz6_1, hfz6_2⟩ := b3_ BK411))
  go_ret
  exact ⟨er_, bb_⟩

end Go.Proofs.Ythgdmdabdlgliaa.PFnReckon
