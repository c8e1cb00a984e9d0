-- WRITTEN BY xprint.py, a program of this session over the kit's printer: by nobody's hand
-- PRESSED
import Derived.Test.YthgdmdabdlgliaaPress
import Derived.Test.YthgdmdabdlgliaaPFnExactEvalx0
import Derived.Test.YthgdmdabdlgliaaPFnExactEvalx8
import Derived.Test.YthgdmdabdlgliaaPFnExactEvalx9
import Derived.Test.YthgdmdabdlgliaaPFnExactEvalx10
import Derived.Test.YthgdmdabdlgliaaPFnExactEvalx12
namespace Go.Proofs.Ythgdmdabdlgliaa.PFnExactEval
open Go.RowKit Go.Proofs.YthgdmdabdlgliaaW.PrintWords Go.Proofs.YthgdmdabdlgliaaW.PrintLast Go.Proofs.YthgdmdabdlgliaaW.PrintMore
set_option linter.unusedVariables false
set_option linter.unusedSimpArgs false

/-! ### impl_Not: function 12 -/
def impl_Not.f (a0_0 : Int) (a0_1 : Int) (a0_2 : ByteArray) : Option (Int × Int × ByteArray) := if a0_0 = 2 then ((impl_flag.f (a0_1 == 0)).bind fun bt385 => (some (bt385.1, bt385.2.1, bt385.2.2))) else ((impl_null.f).bind fun bt388 => (some (bt388.1, bt388.2.1, bt388.2.2)))
set_option maxHeartbeats 8000000 in
set_option maxRecDepth 100000 in
theorem impl_Not.calls (a0_0 : Int) (a0_1 : Int) (a0_2 : ByteArray) (r1 : Int) (r2 : Int) (r3 : ByteArray) (w : World) (h : impl_Not.f a0_0 a0_1 a0_2 = some (r1, r2, r3)) :
  Calls Try.prog 12 #[.agg #[.int .i64 a0_0, .int .i64 a0_1, .string a0_2]] w fun e w' => e = .returned (.agg #[.int .i64 r1, .int .i64 r2, .string r3]) ∧ Below w.heap.size w w' := by
 have hu25 := Try.underlying25
 have HB := Aside0.mk (Below.refl w.heap.size w)
 have H : (if a0_0 = 2 then ((impl_flag.f (a0_1 == 0)).bind fun bt385 => (some (bt385.1, bt385.2.1, bt385.2.2))) else ((impl_null.f).bind fun bt388 => (some (bt388.1, bt388.2.1, bt388.2.2)))) = some (r1, r2, r3) := h
 clear h
 by_cases c2 : a0_0 = 2
 ·rw [if_pos c2] at H
  have c2b0 : (a0_0 == 2) = true := beq_iff_eq.mpr c2
  have c2b1 : (a0_0 != 2) = false := bne_eq_false_iff_eq.mpr c2
  clear c2
  replace H := Option.bind_eq_some_iff.mp H
  obtain ⟨⟨t385, t386, t387⟩, A30, H⟩ := H
  replace H : (some (t385, t386, t387)) = some (r1, r2, r3) := H
  have A3 := Aside0.mk A30
  clear A30
  simp only [Option.some.injEq, Prod.mk.injEq] at H
  obtain ⟨rfl, rfl, rfl⟩ := H
  go_enter Try.func12, Try.ntmps12
  go_wp2_with (first | ((with_reducible refine gate_dst (N := 1) rfl ?_); refine bx_ 1 #[.int .i64 a0_0, .int .i64 a0_1, .string a0_2] 25 ?_; intro gb383 hg w4 hbox hb; have BK383 := Aside0.mk (hbox); have GW383 := gw_ hg; have GE383 := gw_ hg; replace HB := bs_ hb; clear hb hbox hg) | ((with_reducible refine gate_dst (N := 2) rfl ?_); refine bx_ 2 #[.int .i64 0, .int .i64 0, .string (⟨#[]⟩ : ByteArray)] 25 ?_; intro gb384 hg w5 hbox hb; have BK384 := Aside0.mk (hbox); have GW384 := gw_ hg; have GE384 := gw_ hg; have NB383_384 := nl_ hg BK383; have NB384_383 := ng_ hg BK383; replace BK383 := bkb_ BK383 hb; replace HB := bs_ hb; clear hb hbox hg; have hnb6 := NB383_384.out; have hnc6 := NB384_383.out; obtain ⟨hcz7_0, hcz7_1, hcz7_2, hfz7_0, hfz7_1, hfz7_2⟩ := b3_ BK383) | ((with_reducible refine gate_callee (f := 50) rfl ?_); refine gsL_ (some 10) Try.func50 #[.bool (a0_1 == 0)] ?_; (with_reducible refine (impl_flag.calls (a0_1 == 0) t385 t386 t387 _ A3.out).mono ?_); rintro e w8 ⟨rfl, hb⟩; refine ⟨_, rfl, ?_⟩; replace BK383 := bkb_ BK383 hb; replace BK384 := bkb_ BK384 hb; replace HB := bs_ hb; (try clear hb); (try clear hb2); (try clear hk); (try clear hi); obtain ⟨hcz9_0, hcz9_1, hcz9_2, hfz9_0, hfz9_1, hfz9_2⟩ := b3_ BK384))
  refine bodyPost_ret (results_cell_row rfl _ _ gb384 25 #[.int .i64 t385, .int .i64 t386, .string t387] (0, 0) _ rfl (bp3_ (bkx_ BK384.out)) Try.underlying25 rfl (by kernel_rfl)) rfl ?_
  exact ⟨er_, bb_⟩
 ·rw [if_neg c2] at H
  have c2b0 : (a0_0 == 2) = false := beq_eq_false_iff_ne.mpr c2
  have c2b1 : (a0_0 != 2) = true := bne_iff_ne.mpr c2
  replace H := Option.bind_eq_some_iff.mp H
  obtain ⟨⟨t388, t389, t390⟩, A100, H⟩ := H
  replace H : (some (t388, t389, t390)) = some (r1, r2, r3) := H
  have A10 := Aside0.mk A100
  clear A100
  simp only [Option.some.injEq, Prod.mk.injEq] at H
  obtain ⟨rfl, rfl, rfl⟩ := H
  go_enter Try.func12, Try.ntmps12
  go_wp2_with (first | ((with_reducible refine gate_dst (N := 1) rfl ?_); refine bx_ 1 #[.int .i64 a0_0, .int .i64 a0_1, .string a0_2] 25 ?_; intro gb383 hg w11 hbox hb; have BK383 := Aside0.mk (hbox); have GW383 := gw_ hg; have GE383 := gw_ hg; replace HB := bs_ hb; clear hb hbox hg) | ((with_reducible refine gate_dst (N := 2) rfl ?_); refine bx_ 2 #[.int .i64 0, .int .i64 0, .string (⟨#[]⟩ : ByteArray)] 25 ?_; intro gb384 hg w12 hbox hb; have BK384 := Aside0.mk (hbox); have GW384 := gw_ hg; have GE384 := gw_ hg; have NB383_384 := nl_ hg BK383; have NB384_383 := ng_ hg BK383; replace BK383 := bkb_ BK383 hb; replace HB := bs_ hb; clear hb hbox hg; have hnb13 := NB383_384.out; have hnc13 := NB384_383.out; obtain ⟨hcz14_0, hcz14_1, hcz14_2, hfz14_0, hfz14_1, hfz14_2⟩ := b3_ BK383) | ((with_reducible refine gate_callee (f := 46) rfl ?_); refine gsL_ (some 6) Try.func46 #[] ?_; (with_reducible refine (impl_null.calls  t388 t389 t390 _ A10.out).mono ?_); rintro e w15 ⟨rfl, hb⟩; refine ⟨_, rfl, ?_⟩; replace BK383 := bkb_ BK383 hb; replace BK384 := bkb_ BK384 hb; replace HB := bs_ hb; (try clear hb); (try clear hb2); (try clear hk); (try clear hi); obtain ⟨hcz16_0, hcz16_1, hcz16_2, hfz16_0, hfz16_1, hfz16_2⟩ := b3_ BK384))
  refine bodyPost_ret (results_cell_row rfl _ _ gb384 25 #[.int .i64 t388, .int .i64 t389, .string t390] (0, 0) _ rfl (bp3_ (bkx_ BK384.out)) Try.underlying25 rfl (by kernel_rfl)) rfl ?_
  exact ⟨er_, bb_⟩

/-! ### impl_IsNull: function 14 -/
def impl_IsNull.f (a0_0 : Int) (a0_1 : Int) (a0_2 : ByteArray) : Option (Int × Int × ByteArray) := (impl_flag.f (a0_0 == 0)).bind fun bt393 => (some (bt393.1, bt393.2.1, bt393.2.2))
set_option maxHeartbeats 8000000 in
set_option maxRecDepth 100000 in
theorem impl_IsNull.calls (a0_0 : Int) (a0_1 : Int) (a0_2 : ByteArray) (r1 : Int) (r2 : Int) (r3 : ByteArray) (w : World) (h : impl_IsNull.f a0_0 a0_1 a0_2 = some (r1, r2, r3)) :
  Calls Try.prog 14 #[.agg #[.int .i64 a0_0, .int .i64 a0_1, .string a0_2]] w fun e w' => e = .returned (.agg #[.int .i64 r1, .int .i64 r2, .string r3]) ∧ Below w.heap.size w w' := by
 have hu25 := Try.underlying25
 have HB := Aside0.mk (Below.refl w.heap.size w)
 have H : ((impl_flag.f (a0_0 == 0)).bind fun bt393 => (some (bt393.1, bt393.2.1, bt393.2.2))) = some (r1, r2, r3) := h
 clear h
 replace H := Option.bind_eq_some_iff.mp H
 obtain ⟨⟨t393, t394, t395⟩, A20, H⟩ := H
 replace H : (some (t393, t394, t395)) = some (r1, r2, r3) := H
 have A2 := Aside0.mk A20
 clear A20
 simp only [Option.some.injEq, Prod.mk.injEq] at H
 obtain ⟨rfl, rfl, rfl⟩ := H
 go_enter Try.func14, Try.ntmps14
 go_wp2_with (first | ((with_reducible refine gate_dst (N := 1) rfl ?_); refine bx_ 1 #[.int .i64 a0_0, .int .i64 a0_1, .string a0_2] 25 ?_; intro gb391 hg w3 hbox hb; have BK391 := Aside0.mk (hbox); have GW391 := gw_ hg; have GE391 := gw_ hg; replace HB := bs_ hb; clear hb hbox hg) | ((with_reducible refine gate_dst (N := 2) rfl ?_); refine bx_ 2 #[.int .i64 0, .int .i64 0, .string (⟨#[]⟩ : ByteArray)] 25 ?_; intro gb392 hg w4 hbox hb; have BK392 := Aside0.mk (hbox); have GW392 := gw_ hg; have GE392 := gw_ hg; have NB391_392 := nl_ hg BK391; have NB392_391 := ng_ hg BK391; replace BK391 := bkb_ BK391 hb; replace HB := bs_ hb; clear hb hbox hg; have hnb5 := NB391_392.out; have hnc5 := NB392_391.out; obtain ⟨hcz6_0, hcz6_1, hcz6_2, hfz6_0, hfz6_1, hfz6_2⟩ := b3_ BK391) | ((with_reducible refine gate_callee (f := 50) rfl ?_); refine gsL_ (some 6) Try.func50 #[.bool (a0_0 == 0)] ?_; (with_reducible refine (impl_flag.calls (a0_0 == 0) t393 t394 t395 _ A2.out).mono ?_); rintro e w7 ⟨rfl, hb⟩; refine ⟨_, rfl, ?_⟩; replace BK391 := bkb_ BK391 hb; replace BK392 := bkb_ BK392 hb; replace HB := bs_ hb; (try clear hb); (try clear hb2); (try clear hk); (try clear hi); obtain ⟨hcz8_0, hcz8_1, hcz8_2, hfz8_0, hfz8_1, hfz8_2⟩ := b3_ BK392))
 refine bodyPost_ret (results_cell_row rfl _ _ gb392 25 #[.int .i64 t393, .int .i64 t394, .string t395] (0, 0) _ rfl (bp3_ (bkx_ BK392.out)) Try.underlying25 rfl (by kernel_rfl)) rfl ?_
 exact ⟨er_, bb_⟩

/-! ### impl_eval: function 75 -/
def impl_eval.f : Nat → Int → Int → Int → Int → ByteArray → ByteArray → List (S55) → List (S25) → Option (Int × Int × ByteArray)
 | 0, _, _, _, _, _, _, _, _ => none
 | k + 1, a0_0, a0_1, a0_2, a0_3, a0_4, a0_5, l0_6, l1 => if a0_0 = 0 then (if a0_1 < (l1.length : Int) then (if 0 ≤ a0_1 then (some ((rd_T25 l1 a0_1).f0, (rd_T25 l1 a0_1).f1, (rd_T25 l1 a0_1).f2)) else (none)) else ((impl_null.f).bind fun bt399 => (some (bt399.1, bt399.2.1, bt399.2.2)))) else (if a0_0 = 1 then (some (a0_2, a0_3, a0_4)) else (if a0_0 = 2 then (if 0 < (l0_6.length : Int) then ((impl_eval.f k ((rd_T55 l0_6 0).f0) ((rd_T55 l0_6 0).f1) ((rd_T55 l0_6 0).f2.f0) ((rd_T55 l0_6 0).f2.f1) ((rd_T55 l0_6 0).f2.f2) ((rd_T55 l0_6 0).f3) ((rd_T55 l0_6 0).f4) l1).bind fun bt403 => (if 1 < (l0_6.length : Int) then ((impl_eval.f k ((rd_T55 l0_6 1).f0) ((rd_T55 l0_6 1).f1) ((rd_T55 l0_6 1).f2.f0) ((rd_T55 l0_6 1).f2.f1) ((rd_T55 l0_6 1).f2.f2) ((rd_T55 l0_6 1).f3) ((rd_T55 l0_6 1).f4) l1).bind fun bt407 => ((impl_Reckon.f k a0_5 bt403.1 bt403.2.1 bt403.2.2 bt407.1 bt407.2.1 bt407.2.2).bind fun bt410 => (some (bt410.1, bt410.2.1, bt410.2.2)))) else (none))) else (none)) else (if a0_0 = 3 then (if 0 < (l0_6.length : Int) then ((impl_eval.f k ((rd_T55 l0_6 0).f0) ((rd_T55 l0_6 0).f1) ((rd_T55 l0_6 0).f2.f0) ((rd_T55 l0_6 0).f2.f1) ((rd_T55 l0_6 0).f2.f2) ((rd_T55 l0_6 0).f3) ((rd_T55 l0_6 0).f4) l1).bind fun bt414 => ((impl_Not.f bt414.1 bt414.2.1 bt414.2.2).bind fun bt417 => (some (bt417.1, bt417.2.1, bt417.2.2)))) else (none)) else (if 0 < (l0_6.length : Int) then ((impl_eval.f k ((rd_T55 l0_6 0).f0) ((rd_T55 l0_6 0).f1) ((rd_T55 l0_6 0).f2.f0) ((rd_T55 l0_6 0).f2.f1) ((rd_T55 l0_6 0).f2.f2) ((rd_T55 l0_6 0).f3) ((rd_T55 l0_6 0).f4) l1).bind fun bt421 => ((impl_IsNull.f bt421.1 bt421.2.1 bt421.2.2).bind fun bt424 => (some (bt424.1, bt424.2.1, bt424.2.2)))) else (none)))))
def impl_eval.T9 : Bool × List (List Nat × List Nat) := (true, [([], []), ([0], [0]), ([], []), ([2], [2]), ([3], [3]), ([4], [4]), ([], []), ([5, 6], [5, 6]), ([], []), ([8], [8]), ([9], [9]), ([10], [10]), ([], []), ([11, 12, 7], [11, 12]), ([1, 7, 13, 13], [1, 7, 13]), ([14, 14, 0, 1, 2, 3, 4, 5, 6, 7, 8, 9, 10, 11, 12, 13, 14], [14])])
def impl_eval.B9 : List Nat := [0, 1, 0, 4, 12, 28, 0, 124, 0, 256, 768, 1792, 0, 8188, 16383, 32767]
theorem impl_eval.tab9 : rtab .any (opsOf Try.f75 9) = impl_eval.T9 := by kernel_rfl
theorem impl_eval.bits9 : waitsOk impl_eval.T9.2 impl_eval.B9 = true := by kernel_rfl
set_option maxHeartbeats 8000000 in
set_option maxRecDepth 100000 in
theorem impl_eval.calls (k : Nat) : ∀ (a0_0 : Int) (a0_1 : Int) (a0_2 : Int) (a0_3 : Int) (a0_4 : ByteArray) (a0_5 : ByteArray) (A0_6 : Option Addr) (c0_6 : Nat) (l0_6 : List (S55)) (A1 : Option Addr) (c1 : Nat) (l1 : List (S25)) (r1 : Int) (r2 : Int) (r3 : ByteArray) (w : World) (hr0_6 : Kd.C k55 w A0_6 l0_6.length l0_6) (hc0_6 : l0_6.length ≤ c0_6) (hr1 : Kd.C k25 w A1 l1.length l1) (hc1 : l1.length ≤ c1) (h : impl_eval.f k a0_0 a0_1 a0_2 a0_3 a0_4 a0_5 l0_6 l1 = some (r1, r2, r3)) (hM : MaxLenIn w := by first | assumption | exact MaxLenIn.drewN (by assumption) _ | exact MaxLenIn.later (by assumption) (by assumption) | exact MaxLenIn.drewN (MaxLenIn.later (by assumption) (by assumption)) _),
  Calls Try.prog 75 #[.agg #[.int .i64 a0_0, .int .i64 a0_1, .int .i64 a0_2, .int .i64 a0_3, .string a0_4, .string a0_5, .slice A0_6 l0_6.length c0_6], .slice A1 l1.length c1] w fun e w' => e = .returned (.agg #[.int .i64 r1, .int .i64 r2, .string r3]) ∧ Below w.heap.size w w' := by
 induction k using Nat.strongRecOn with
 | _ k ih =>
 intro a0_0 a0_1 a0_2 a0_3 a0_4 a0_5 A0_6 c0_6 l0_6 A1 c1 l1 r1 r2 r3 w hr0_6 hc0_6 hr1 hc1 h hM
 cases k with
 | zero => exact absurd h (by simp [impl_eval.f])
 | succ k =>
 simp only [impl_eval.f] at h
 have hu55 := Try.underlying55
 have hu25 := Try.underlying25
 have HR0_6 := Aside0.mk hr0_6
 have HC0_6 := Aside0.mk hc0_6
 clear hr0_6 hc0_6
 have HR1 := Aside0.mk hr1
 have HC1 := Aside0.mk hc1
 clear hr1 hc1
 have HB := Aside0.mk (Below.refl w.heap.size w)
 have H : (if a0_0 = 0 then (if a0_1 < (l1.length : Int) then (if 0 ≤ a0_1 then (some ((rd_T25 l1 a0_1).f0, (rd_T25 l1 a0_1).f1, (rd_T25 l1 a0_1).f2)) else (none)) else ((impl_null.f).bind fun bt399 => (some (bt399.1, bt399.2.1, bt399.2.2)))) else (if a0_0 = 1 then (some (a0_2, a0_3, a0_4)) else (if a0_0 = 2 then (if 0 < (l0_6.length : Int) then ((impl_eval.f k ((rd_T55 l0_6 0).f0) ((rd_T55 l0_6 0).f1) ((rd_T55 l0_6 0).f2.f0) ((rd_T55 l0_6 0).f2.f1) ((rd_T55 l0_6 0).f2.f2) ((rd_T55 l0_6 0).f3) ((rd_T55 l0_6 0).f4) l1).bind fun bt403 => (if 1 < (l0_6.length : Int) then ((impl_eval.f k ((rd_T55 l0_6 1).f0) ((rd_T55 l0_6 1).f1) ((rd_T55 l0_6 1).f2.f0) ((rd_T55 l0_6 1).f2.f1) ((rd_T55 l0_6 1).f2.f2) ((rd_T55 l0_6 1).f3) ((rd_T55 l0_6 1).f4) l1).bind fun bt407 => ((impl_Reckon.f k a0_5 bt403.1 bt403.2.1 bt403.2.2 bt407.1 bt407.2.1 bt407.2.2).bind fun bt410 => (some (bt410.1, bt410.2.1, bt410.2.2)))) else (none))) else (none)) else (if a0_0 = 3 then (if 0 < (l0_6.length : Int) then ((impl_eval.f k ((rd_T55 l0_6 0).f0) ((rd_T55 l0_6 0).f1) ((rd_T55 l0_6 0).f2.f0) ((rd_T55 l0_6 0).f2.f1) ((rd_T55 l0_6 0).f2.f2) ((rd_T55 l0_6 0).f3) ((rd_T55 l0_6 0).f4) l1).bind fun bt414 => ((impl_Not.f bt414.1 bt414.2.1 bt414.2.2).bind fun bt417 => (some (bt417.1, bt417.2.1, bt417.2.2)))) else (none)) else (if 0 < (l0_6.length : Int) then ((impl_eval.f k ((rd_T55 l0_6 0).f0) ((rd_T55 l0_6 0).f1) ((rd_T55 l0_6 0).f2.f0) ((rd_T55 l0_6 0).f2.f1) ((rd_T55 l0_6 0).f2.f2) ((rd_T55 l0_6 0).f3) ((rd_T55 l0_6 0).f4) l1).bind fun bt421 => ((impl_IsNull.f bt421.1 bt421.2.1 bt421.2.2).bind fun bt424 => (some (bt424.1, bt424.2.1, bt424.2.2)))) else (none)))))) = some (r1, r2, r3) := h
 clear h
 by_cases c3 : a0_0 = 0
 ·rw [if_pos c3] at H
  have c3b0 : (a0_0 == 0) = true := beq_iff_eq.mpr c3
  have c3b1 : (a0_0 != 0) = false := bne_eq_false_iff_eq.mpr c3
  clear c3
  by_cases c4 : a0_1 < (l1.length : Int)
  ·rw [if_pos c4] at H
   have c4b0 : decide (a0_1 < (l1.length : Int)) = true := decide_eq_true c4
   clear c4
   by_cases c5 : 0 ≤ a0_1
   ·rw [if_pos c5] at H
    have c5b0 : decide (0 ≤ a0_1) = true := decide_eq_true c5
    clear c5
    simp only [Option.some.injEq, Prod.mk.injEq] at H
    obtain ⟨rfl, rfl, rfl⟩ := H
    go_enter Try.func75, Try.ntmps75
    go_wp2_with (first | ((with_reducible refine gate_dst (N := 2) rfl ?_); refine bx_ 2 #[.int .i64 a0_0, .int .i64 a0_1, .int .i64 a0_2, .int .i64 a0_3, .string a0_4, .string a0_5, .slice A0_6 l0_6.length c0_6] 55 ?_; intro gb396 hg w6 hbox hb; have BK396 := Aside0.mk (hbox); have GW396 := gw_ hg; have GE396 := gw_ hg; replace HB := bs_ hb; clear hb hbox hg) | ((with_reducible refine gate_dst (N := 4) rfl ?_); refine bx_ 4 #[.int .i64 0, .int .i64 0, .string (⟨#[]⟩ : ByteArray)] 25 ?_; intro gb397 hg w7 hbox hb; have BK397 := Aside0.mk (hbox); have GW397 := gw_ hg; have GE397 := gw_ hg; have NB396_397 := nl_ hg BK396; have NB397_396 := ng_ hg BK396; replace BK396 := bkb_ BK396 hb; replace HB := bs_ hb; clear hb hbox hg; have hnb8 := NB396_397.out; have hnc8 := NB397_396.out; obtain ⟨hcz9_0, hcz9_1, hcz9_2, hcz9_3, hcz9_4, hcz9_5, hcz9_6, hfz9_0, hfz9_1, hfz9_2, hfz9_3, hfz9_4, hfz9_5, hfz9_6⟩ := b7_ BK396; have p398 : 0 ≤ (a0_1 : Int) := of_decide_eq_true (by first | (with_reducible assumption) | assumption); have q398 : a0_1 < (l1.length : Int) := of_decide_eq_true (by first | (with_reducible assumption) | assumption); obtain ⟨ad398, e398, hx398_0, hx398_1, hx398_2⟩ := at_T25 HR1.out a0_1 p398 q398; cases e398; replace hx398_0 := hb_ HB hx398_0; replace hx398_1 := hb_ HB hx398_1; replace hx398_2 := hb_ HB hx398_2; replace p398 := eq_true p398; replace q398 := eq_true q398; obtain ⟨hcz10_0, hcz10_1, hcz10_2, hfz10_0, hfz10_1, hfz10_2⟩ := b3_ BK397))
    refine bodyPost_ret (results_cell_row rfl _ _ gb397 25 #[.int .i64 ((rd_T25 l1 a0_1).f0), .int .i64 ((rd_T25 l1 a0_1).f1), .string ((rd_T25 l1 a0_1).f2)] (0, 0) _ rfl (bp3_ (bkx_ BK397.out)) Try.underlying25 rfl (by kernel_rfl)) rfl ?_
    exact ⟨er_, bb_⟩
   ·rw [if_neg c5] at H
    exact absurd H (by simp)
  ·rw [if_neg c4] at H
   have c4b0 : decide (a0_1 < (l1.length : Int)) = false := decide_eq_false c4
   clear c4
   replace H := Option.bind_eq_some_iff.mp H
   obtain ⟨⟨t399, t400, t401⟩, A110, H⟩ := H
   replace H : (some (t399, t400, t401)) = some (r1, r2, r3) := H
   have A11 := Aside0.mk A110
   clear A110
   simp only [Option.some.injEq, Prod.mk.injEq] at H
   obtain ⟨rfl, rfl, rfl⟩ := H
   go_enter Try.func75, Try.ntmps75
   go_wp2_with (first | ((with_reducible refine gate_dst (N := 2) rfl ?_); refine bx_ 2 #[.int .i64 a0_0, .int .i64 a0_1, .int .i64 a0_2, .int .i64 a0_3, .string a0_4, .string a0_5, .slice A0_6 l0_6.length c0_6] 55 ?_; intro gb396 hg w12 hbox hb; have BK396 := Aside0.mk (hbox); have GW396 := gw_ hg; have GE396 := gw_ hg; replace HB := bs_ hb; clear hb hbox hg) | ((with_reducible refine gate_dst (N := 4) rfl ?_); refine bx_ 4 #[.int .i64 0, .int .i64 0, .string (⟨#[]⟩ : ByteArray)] 25 ?_; intro gb397 hg w13 hbox hb; have BK397 := Aside0.mk (hbox); have GW397 := gw_ hg; have GE397 := gw_ hg; have NB396_397 := nl_ hg BK396; have NB397_396 := ng_ hg BK396; replace BK396 := bkb_ BK396 hb; replace HB := bs_ hb; clear hb hbox hg; have hnb14 := NB396_397.out; have hnc14 := NB397_396.out; obtain ⟨hcz15_0, hcz15_1, hcz15_2, hcz15_3, hcz15_4, hcz15_5, hcz15_6, hfz15_0, hfz15_1, hfz15_2, hfz15_3, hfz15_4, hfz15_5, hfz15_6⟩ := b7_ BK396) | ((with_reducible refine gate_callee (f := 46) rfl ?_); refine gsL_ (some 19) Try.func46 #[] ?_; (with_reducible refine (impl_null.calls  t399 t400 t401 _ A11.out).mono ?_); rintro e w16 ⟨rfl, hb⟩; refine ⟨_, rfl, ?_⟩; replace BK396 := bkb_ BK396 hb; replace BK397 := bkb_ BK397 hb; replace HB := bs_ hb; (try clear hb); (try clear hb2); (try clear hk); (try clear hi); obtain ⟨hcz17_0, hcz17_1, hcz17_2, hfz17_0, hfz17_1, hfz17_2⟩ := b3_ BK397))
   refine bodyPost_ret (results_cell_row rfl _ _ gb397 25 #[.int .i64 t399, .int .i64 t400, .string t401] (0, 0) _ rfl (bp3_ (bkx_ BK397.out)) Try.underlying25 rfl (by kernel_rfl)) rfl ?_
   exact ⟨er_, bb_⟩
 ·rw [if_neg c3] at H
  have c3b0 : (a0_0 == 0) = false := beq_eq_false_iff_ne.mpr c3
  have c3b1 : (a0_0 != 0) = true := bne_iff_ne.mpr c3
  by_cases c18 : a0_0 = 1
  ·rw [if_pos c18] at H
   have c18b0 : (a0_0 == 1) = true := beq_iff_eq.mpr c18
   have c18b1 : (a0_0 != 1) = false := bne_eq_false_iff_eq.mpr c18
   clear c18
   simp only [Option.some.injEq, Prod.mk.injEq] at H
   obtain ⟨rfl, rfl, rfl⟩ := H
   go_enter Try.func75, Try.ntmps75
   go_wp2_with (first | ((with_reducible refine gate_dst (N := 2) rfl ?_); refine bx_ 2 #[.int .i64 a0_0, .int .i64 a0_1, .int .i64 a0_2, .int .i64 a0_3, .string a0_4, .string a0_5, .slice A0_6 l0_6.length c0_6] 55 ?_; intro gb396 hg w19 hbox hb; have BK396 := Aside0.mk (hbox); have GW396 := gw_ hg; have GE396 := gw_ hg; replace HB := bs_ hb; clear hb hbox hg) | ((with_reducible refine gate_dst (N := 4) rfl ?_); refine bx_ 4 #[.int .i64 0, .int .i64 0, .string (⟨#[]⟩ : ByteArray)] 25 ?_; intro gb397 hg w20 hbox hb; have BK397 := Aside0.mk (hbox); have GW397 := gw_ hg; have GE397 := gw_ hg; have NB396_397 := nl_ hg BK396; have NB397_396 := ng_ hg BK396; replace BK396 := bkb_ BK396 hb; replace HB := bs_ hb; clear hb hbox hg; have hnb21 := NB396_397.out; have hnc21 := NB397_396.out; obtain ⟨hcz22_0, hcz22_1, hcz22_2, hcz22_3, hcz22_4, hcz22_5, hcz22_6, hfz22_0, hfz22_1, hfz22_2, hfz22_3, hfz22_4, hfz22_5, hfz22_6⟩ := b7_ BK396; obtain ⟨hcz23_0, hcz23_1, hcz23_2, hfz23_0, hfz23_1, hfz23_2⟩ := b3_ BK397))
   refine bodyPost_ret (results_cell_row rfl _ _ gb397 25 #[.int .i64 a0_2, .int .i64 a0_3, .string a0_4] (0, 0) _ rfl (bp3_ (bkx_ BK397.out)) Try.underlying25 rfl (by kernel_rfl)) rfl ?_
   exact ⟨er_, bb_⟩
  ·rw [if_neg c18] at H
   have c18b0 : (a0_0 == 1) = false := beq_eq_false_iff_ne.mpr c18
   have c18b1 : (a0_0 != 1) = true := bne_iff_ne.mpr c18
   by_cases c24 : a0_0 = 2
   ·rw [if_pos c24] at H
    have c24b0 : (a0_0 == 2) = true := beq_iff_eq.mpr c24
    have c24b1 : (a0_0 != 2) = false := bne_eq_false_iff_eq.mpr c24
    clear c24
    by_cases c25 : 0 < (l0_6.length : Int)
    ·rw [if_pos c25] at H
     have c25b0 : decide (0 < (l0_6.length : Int)) = true := decide_eq_true c25
     have c25b1 : decide (0 < l0_6.length) = true := decide_eq_true (by omega)
     clear c25
     replace H := Option.bind_eq_some_iff.mp H
     obtain ⟨⟨t403, t404, t405⟩, A260, H⟩ := H
     replace H : (if 1 < (l0_6.length : Int) then ((impl_eval.f k ((rd_T55 l0_6 1).f0) ((rd_T55 l0_6 1).f1) ((rd_T55 l0_6 1).f2.f0) ((rd_T55 l0_6 1).f2.f1) ((rd_T55 l0_6 1).f2.f2) ((rd_T55 l0_6 1).f3) ((rd_T55 l0_6 1).f4) l1).bind fun bt407 => ((impl_Reckon.f k a0_5 t403 t404 t405 bt407.1 bt407.2.1 bt407.2.2).bind fun bt410 => (some (bt410.1, bt410.2.1, bt410.2.2)))) else (none)) = some (r1, r2, r3) := H
     have A26 := Aside0.mk A260
     clear A260
     by_cases c27 : 1 < (l0_6.length : Int)
     ·rw [if_pos c27] at H
      have c27b0 : decide (1 < (l0_6.length : Int)) = true := decide_eq_true c27
      have c27b1 : decide (1 < l0_6.length) = true := decide_eq_true (by omega)
      clear c27
      replace H := Option.bind_eq_some_iff.mp H
      obtain ⟨⟨t407, t408, t409⟩, A280, H⟩ := H
      replace H : ((impl_Reckon.f k a0_5 t403 t404 t405 t407 t408 t409).bind fun bt410 => (some (bt410.1, bt410.2.1, bt410.2.2))) = some (r1, r2, r3) := H
      have A28 := Aside0.mk A280
      clear A280
      replace H := Option.bind_eq_some_iff.mp H
      obtain ⟨⟨t410, t411, t412⟩, A290, H⟩ := H
      replace H : (some (t410, t411, t412)) = some (r1, r2, r3) := H
      have A29 := Aside0.mk A290
      clear A290
      simp only [Option.some.injEq, Prod.mk.injEq] at H
      obtain ⟨rfl, rfl, rfl⟩ := H
      go_enter Try.func75, Try.ntmps75
      try go_wp2_with (first | ((with_reducible refine gate_dst (N := 2) rfl ?_); refine bx_ 2 #[.int .i64 a0_0, .int .i64 a0_1, .int .i64 a0_2, .int .i64 a0_3, .string a0_4, .string a0_5, .slice A0_6 l0_6.length c0_6] 55 ?_; intro gb396 hg w30 hbox hb; have BK396 := Aside0.mk (hbox); have GW396 := gw_ hg; have GE396 := gw_ hg; replace HB := bs_ hb; clear hb hbox hg) | ((with_reducible refine gate_dst (N := 4) rfl ?_); refine bx_ 4 #[.int .i64 0, .int .i64 0, .string (⟨#[]⟩ : ByteArray)] 25 ?_; intro gb397 hg w31 hbox hb; have BK397 := Aside0.mk (hbox); have GW397 := gw_ hg; have GE397 := gw_ hg; have NB396_397 := nl_ hg BK396; have NB397_396 := ng_ hg BK396; replace BK396 := bkb_ BK396 hb; replace HB := bs_ hb; clear hb hbox hg; have hnb32 := NB396_397.out; have hnc32 := NB397_396.out; obtain ⟨hcz33_0, hcz33_1, hcz33_2, hcz33_3, hcz33_4, hcz33_5, hcz33_6, hfz33_0, hfz33_1, hfz33_2, hfz33_3, hfz33_4, hfz33_5, hfz33_6⟩ := b7_ BK396))
      replace BK396 := Aside0.mk (blk_drew BK396.out)
      replace BK397 := Aside0.mk (blk_drew BK397.out)
      replace HB := Aside0.mk (below_drew1 HB.out)
      have p402 : 0 ≤ (0 : Int) := (by omega)
      have q402 : 0 < (l0_6.length : Int) := of_decide_eq_true (by first | (with_reducible assumption) | assumption)
      obtain ⟨ad402, A402_6, c402_6, e402, hx402_0, hx402_1, hx402_2, hx402_3, hx402_4, hx402_5, hx402_6, hl402_6, hi402_6⟩ := at_T55 HR0_6.out 0 p402 q402
      have hw402_6 := hx402_6
      (try rw [show ((0 : Int)).toNat = 0 from rfl] at hw402_6)
      (try rw [show 0 * 7 = 0 from rfl] at hw402_6)
      (try rw [Addr.add_zero'] at hw402_6)
      have hw402_5 := hx402_5
      (try rw [show ((0 : Int)).toNat = 0 from rfl] at hw402_5)
      (try rw [show 0 * 7 = 0 from rfl] at hw402_5)
      (try rw [Addr.add_zero'] at hw402_5)
      have hw402_4 := hx402_4
      (try rw [show ((0 : Int)).toNat = 0 from rfl] at hw402_4)
      (try rw [show 0 * 7 = 0 from rfl] at hw402_4)
      (try rw [Addr.add_zero'] at hw402_4)
      have hw402_3 := hx402_3
      (try rw [show ((0 : Int)).toNat = 0 from rfl] at hw402_3)
      (try rw [show 0 * 7 = 0 from rfl] at hw402_3)
      (try rw [Addr.add_zero'] at hw402_3)
      have hw402_2 := hx402_2
      (try rw [show ((0 : Int)).toNat = 0 from rfl] at hw402_2)
      (try rw [show 0 * 7 = 0 from rfl] at hw402_2)
      (try rw [Addr.add_zero'] at hw402_2)
      have hw402_1 := hx402_1
      (try rw [show ((0 : Int)).toNat = 0 from rfl] at hw402_1)
      (try rw [show 0 * 7 = 0 from rfl] at hw402_1)
      (try rw [Addr.add_zero'] at hw402_1)
      have hw402_0 := hx402_0
      (try rw [show ((0 : Int)).toNat = 0 from rfl] at hw402_0)
      (try rw [show 0 * 7 = 0 from rfl] at hw402_0)
      (try rw [Addr.add_zero'] at hw402_0)
      cases e402
      have qi402 : (0 < l0_6.length) = True := eq_true (by omega)
      (try rw [show ((0 : Int)).toNat = 0 from rfl] at hx402_0)
      (try rw [show 0 * 7 = 0 from rfl] at hx402_0)
      (try rw [Addr.add_zero'] at hx402_0)
      (try rw [show ((0 : Int)).toNat = 0 from rfl] at hx402_1)
      (try rw [show 0 * 7 = 0 from rfl] at hx402_1)
      (try rw [Addr.add_zero'] at hx402_1)
      (try rw [show ((0 : Int)).toNat = 0 from rfl] at hx402_2)
      (try rw [show 0 * 7 = 0 from rfl] at hx402_2)
      (try rw [Addr.add_zero'] at hx402_2)
      (try rw [show ((0 : Int)).toNat = 0 from rfl] at hx402_3)
      (try rw [show 0 * 7 = 0 from rfl] at hx402_3)
      (try rw [Addr.add_zero'] at hx402_3)
      (try rw [show ((0 : Int)).toNat = 0 from rfl] at hx402_4)
      (try rw [show 0 * 7 = 0 from rfl] at hx402_4)
      (try rw [Addr.add_zero'] at hx402_4)
      (try rw [show ((0 : Int)).toNat = 0 from rfl] at hx402_5)
      (try rw [show 0 * 7 = 0 from rfl] at hx402_5)
      (try rw [Addr.add_zero'] at hx402_5)
      (try rw [show ((0 : Int)).toNat = 0 from rfl] at hx402_6)
      (try rw [show 0 * 7 = 0 from rfl] at hx402_6)
      (try rw [Addr.add_zero'] at hx402_6)
      replace hx402_0 := hb_ HB hx402_0
      replace hx402_1 := hb_ HB hx402_1
      replace hx402_2 := hb_ HB hx402_2
      replace hx402_3 := hb_ HB hx402_3
      replace hx402_4 := hb_ HB hx402_4
      replace hx402_5 := hb_ HB hx402_5
      replace hx402_6 := hb_ HB hx402_6
      have HR402_6 := Aside0.mk hi402_6
      have HC402_6 := Aside0.mk hl402_6
      clear hi402_6 hl402_6
      replace p402 := eq_true p402
      replace q402 := eq_true q402
      have p406 : 0 ≤ (1 : Int) := (by omega)
      have q406 : 1 < (l0_6.length : Int) := of_decide_eq_true (by first | (with_reducible assumption) | assumption)
      obtain ⟨ad406, A406_6, c406_6, e406, hx406_0, hx406_1, hx406_2, hx406_3, hx406_4, hx406_5, hx406_6, hl406_6, hi406_6⟩ := at_T55 HR0_6.out 1 p406 q406
      have hw406_6 := hx406_6
      (try rw [show ((1 : Int)).toNat = 1 from rfl] at hw406_6)
      (try rw [show 1 * 7 = 7 from rfl] at hw406_6)
      (try simp only [Nat.reduceMul, Nat.reduceEqDiff, Go.Addr.add, ↓reduceIte] at hw406_6)
      have hw406_5 := hx406_5
      (try rw [show ((1 : Int)).toNat = 1 from rfl] at hw406_5)
      (try rw [show 1 * 7 = 7 from rfl] at hw406_5)
      (try simp only [Nat.reduceMul, Nat.reduceEqDiff, Go.Addr.add, ↓reduceIte] at hw406_5)
      have hw406_4 := hx406_4
      (try rw [show ((1 : Int)).toNat = 1 from rfl] at hw406_4)
      (try rw [show 1 * 7 = 7 from rfl] at hw406_4)
      (try simp only [Nat.reduceMul, Nat.reduceEqDiff, Go.Addr.add, ↓reduceIte] at hw406_4)
      have hw406_3 := hx406_3
      (try rw [show ((1 : Int)).toNat = 1 from rfl] at hw406_3)
      (try rw [show 1 * 7 = 7 from rfl] at hw406_3)
      (try simp only [Nat.reduceMul, Nat.reduceEqDiff, Go.Addr.add, ↓reduceIte] at hw406_3)
      have hw406_2 := hx406_2
      (try rw [show ((1 : Int)).toNat = 1 from rfl] at hw406_2)
      (try rw [show 1 * 7 = 7 from rfl] at hw406_2)
      (try simp only [Nat.reduceMul, Nat.reduceEqDiff, Go.Addr.add, ↓reduceIte] at hw406_2)
      have hw406_1 := hx406_1
      (try rw [show ((1 : Int)).toNat = 1 from rfl] at hw406_1)
      (try rw [show 1 * 7 = 7 from rfl] at hw406_1)
      (try simp only [Nat.reduceMul, Nat.reduceEqDiff, Go.Addr.add, ↓reduceIte] at hw406_1)
      have hw406_0 := hx406_0
      (try rw [show ((1 : Int)).toNat = 1 from rfl] at hw406_0)
      (try rw [show 1 * 7 = 7 from rfl] at hw406_0)
      (try simp only [Nat.reduceMul, Nat.reduceEqDiff, Go.Addr.add, ↓reduceIte] at hw406_0)
      obtain rfl : ad402 = ad406 := (by injection e406)
      (try simp only [show (1 : Int).toNat = 1 from rfl, Nat.reduceMul, Nat.reduceEqDiff, Go.Addr.add, ↓reduceIte] at hx406_0)
      (try simp only [show (1 : Int).toNat = 1 from rfl, Nat.reduceMul, Nat.reduceEqDiff, Go.Addr.add, ↓reduceIte] at hx406_1)
      (try simp only [show (1 : Int).toNat = 1 from rfl, Nat.reduceMul, Nat.reduceEqDiff, Go.Addr.add, ↓reduceIte] at hx406_2)
      (try simp only [show (1 : Int).toNat = 1 from rfl, Nat.reduceMul, Nat.reduceEqDiff, Go.Addr.add, ↓reduceIte] at hx406_3)
      (try simp only [show (1 : Int).toNat = 1 from rfl, Nat.reduceMul, Nat.reduceEqDiff, Go.Addr.add, ↓reduceIte] at hx406_4)
      (try simp only [show (1 : Int).toNat = 1 from rfl, Nat.reduceMul, Nat.reduceEqDiff, Go.Addr.add, ↓reduceIte] at hx406_5)
      (try simp only [show (1 : Int).toNat = 1 from rfl, Nat.reduceMul, Nat.reduceEqDiff, Go.Addr.add, ↓reduceIte] at hx406_6)
      have qi406 : (1 < l0_6.length) = True := eq_true (by omega)
      (try rw [show ((1 : Int)).toNat = 1 from rfl] at hx406_0)
      (try rw [show 1 * 7 = 7 from rfl] at hx406_0)
      (try rw [show ((1 : Int)).toNat = 1 from rfl] at hx406_1)
      (try rw [show 1 * 7 = 7 from rfl] at hx406_1)
      (try rw [show ((1 : Int)).toNat = 1 from rfl] at hx406_2)
      (try rw [show 1 * 7 = 7 from rfl] at hx406_2)
      (try rw [show ((1 : Int)).toNat = 1 from rfl] at hx406_3)
      (try rw [show 1 * 7 = 7 from rfl] at hx406_3)
      (try rw [show ((1 : Int)).toNat = 1 from rfl] at hx406_4)
      (try rw [show 1 * 7 = 7 from rfl] at hx406_4)
      (try rw [show ((1 : Int)).toNat = 1 from rfl] at hx406_5)
      (try rw [show 1 * 7 = 7 from rfl] at hx406_5)
      (try rw [show ((1 : Int)).toNat = 1 from rfl] at hx406_6)
      (try rw [show 1 * 7 = 7 from rfl] at hx406_6)
      replace hx406_0 := hb_ HB hx406_0
      replace hx406_1 := hb_ HB hx406_1
      replace hx406_2 := hb_ HB hx406_2
      replace hx406_3 := hb_ HB hx406_3
      replace hx406_4 := hb_ HB hx406_4
      replace hx406_5 := hb_ HB hx406_5
      replace hx406_6 := hb_ HB hx406_6
      have HR406_6 := Aside0.mk hi406_6
      have HC406_6 := Aside0.mk hl406_6
      clear hi406_6 hl406_6
      replace p406 := eq_true p406
      replace q406 := eq_true q406
      refine start_ (n := 16) (S := fun w' => w'.cell? ⟨gb396, 0, none⟩ = some (.int .i64 a0_0) ∧ w'.cell? ⟨gb396, 1, none⟩ = some (.int .i64 a0_1) ∧ w'.cell? ⟨gb396, 2, none⟩ = some (.int .i64 a0_2) ∧ w'.cell? ⟨gb396, 3, none⟩ = some (.int .i64 a0_3) ∧ w'.cell? ⟨gb396, 4, none⟩ = some (.string a0_4) ∧ w'.cell? ⟨gb396, 5, none⟩ = some (.string a0_5) ∧ w'.cell? ⟨gb396, 6, none⟩ = some (.slice (some ad402) l0_6.length c0_6) ∧ w'.cell? ad402 = some (.int .i64 ((rd_T55 l0_6 0).f0)) ∧ w'.cell? ⟨ad402.block, ad402.off + 1, none⟩ = some (.int .i64 ((rd_T55 l0_6 0).f1)) ∧ w'.cell? ⟨ad402.block, ad402.off + 2, none⟩ = some (.int .i64 ((rd_T55 l0_6 0).f2.f0)) ∧ w'.cell? ⟨ad402.block, ad402.off + 3, none⟩ = some (.int .i64 ((rd_T55 l0_6 0).f2.f1)) ∧ w'.cell? ⟨ad402.block, ad402.off + 4, none⟩ = some (.string ((rd_T55 l0_6 0).f2.f2)) ∧ w'.cell? ⟨ad402.block, ad402.off + 5, none⟩ = some (.string ((rd_T55 l0_6 0).f3)) ∧ w'.cell? ⟨ad402.block, ad402.off + 6, none⟩ = some (.slice A402_6 ((rd_T55 l0_6 0).f4).length c402_6) ∧ w'.cell? ⟨ad402.block, ad402.off + 7, none⟩ = some (.int .i64 ((rd_T55 l0_6 1).f0)) ∧ w'.cell? ⟨ad402.block, ad402.off + 7 + 1, none⟩ = some (.int .i64 ((rd_T55 l0_6 1).f1)) ∧ w'.cell? ⟨ad402.block, ad402.off + 7 + 2, none⟩ = some (.int .i64 ((rd_T55 l0_6 1).f2.f0)) ∧ w'.cell? ⟨ad402.block, ad402.off + 7 + 3, none⟩ = some (.int .i64 ((rd_T55 l0_6 1).f2.f1)) ∧ w'.cell? ⟨ad402.block, ad402.off + 7 + 4, none⟩ = some (.string ((rd_T55 l0_6 1).f2.f2)) ∧ w'.cell? ⟨ad402.block, ad402.off + 7 + 5, none⟩ = some (.string ((rd_T55 l0_6 1).f3)) ∧ w'.cell? ⟨ad402.block, ad402.off + 7 + 6, none⟩ = some (.slice A406_6 ((rd_T55 l0_6 1).f4).length c406_6)) (ds := []) (tf 0 16) (by kernel_rfl) rfl rfl ⟨bc_ BK396 0, bc_ BK396 1, bc_ BK396 2, bc_ BK396 3, bc_ BK396 4, bc_ BK396 5, bc_ BK396 6, (hb_ HB hw402_0), (hb_ HB hw402_1), (hb_ HB hw402_2), (hb_ HB hw402_3), (hb_ HB hw402_4), (hb_ HB hw402_5), (hb_ HB hw402_6), (hb_ HB hw406_0), (hb_ HB hw406_1), (hb_ HB hw406_2), (hb_ HB hw406_3), (hb_ HB hw406_4), (hb_ HB hw406_5), (hb_ HB hw406_6)⟩ (fun hHeld => ?_); refine with_tabW impl_eval.tab9 impl_eval.bits9 (fun HT_ HW_ => ?_)
      generalize w31.drew = w34 at BK396 BK397 HB HR402_6 HR406_6 hx402_0 hx402_1 hx402_2 hx402_3 hx402_4 hx402_5 hx402_6 hx406_0 hx406_1 hx406_2 hx406_3 hx406_4 hx406_5 hx406_6 hHeld ⊢
      refine pl_ ?_
      refine plx_ 2 #[true, false, true, false, false, false, false, false, false, false, false, false, false, false, false, false] ?_
      refine plx_ 6 #[true, false, true, false, false, false, true, false, false, false, false, false, false, false, false, false] ?_
      refine plx_ 8 #[true, false, true, false, false, false, true, false, true, false, false, false, false, false, false, false] ?_
      refine plx_ 12 #[true, false, true, false, false, false, true, false, true, false, false, false, true, false, false, false] ?_
      refine tlx_ 1 #[true, true, true, false, false, false, true, false, true, false, false, false, true, false, false, false] ?_
      refine tlx_ 3 #[true, true, true, true, false, false, true, false, true, false, false, false, true, false, false, false] ?_
      refine plx_ 4 #[true, true, true, true, true, false, true, false, true, false, false, false, true, false, false, false] ?_
      refine tlx_ 5 #[true, true, true, true, true, true, true, false, true, false, false, false, true, false, false, false] ?_
      refine tlx_ 9 #[true, true, true, true, true, true, true, false, true, true, false, false, true, false, false, false] ?_
      refine plx_ 10 #[true, true, true, true, true, true, true, false, true, true, true, false, true, false, false, false] ?_
      refine tlx_ 11 #[true, true, true, true, true, true, true, false, true, true, true, true, true, false, false, false] ?_
      refine one_ (i := 7) (N := some 33) (tf 13 3) rfl rfl (one_of HT_.out (by kernel_rfl)) (by decide) (fun K hK => ?_)
      refine gs_ Try.func75 #[.agg #[.int .i64 ((rd_T55 l0_6 0).f0), .int .i64 ((rd_T55 l0_6 0).f1), .int .i64 ((rd_T55 l0_6 0).f2.f0), .int .i64 ((rd_T55 l0_6 0).f2.f1), .string ((rd_T55 l0_6 0).f2.f2), .string ((rd_T55 l0_6 0).f3), .slice A402_6 ((rd_T55 l0_6 0).f4).length c402_6], .slice A1 l1.length c1] ?_
      with_reducible refine (ih k (by omega) ((rd_T55 l0_6 0).f0) ((rd_T55 l0_6 0).f1) ((rd_T55 l0_6 0).f2.f0) ((rd_T55 l0_6 0).f2.f1) ((rd_T55 l0_6 0).f2.f2) ((rd_T55 l0_6 0).f3) _ _ ((rd_T55 l0_6 0).f4) _ _ l1 t403 t404 t405 _ ?side1 ?side2 ?side3 ?side4 A26.out).mono ?_
      (case side1 => exact ck_ (Kd.C_below HR402_6.out HB.out))
      (case side2 => exact HC402_6.out)
      (case side3 => exact ck_ (Kd.C_below HR1.out HB.out))
      (case side4 => exact HC1.out)
      rintro e w35 ⟨rfl, hb⟩
      refine ⟨_, rfl, ?_⟩
      replace BK396 := bkb_ BK396 hb
      replace BK397 := bkb_ BK397 hb
      replace HB := bs_ hb
      (try clear hb)
      (try clear hb2)
      (try clear hk)
      (try clear hi)
      refine hK.out _ _ ⟨bc_ BK396 0, bc_ BK396 1, bc_ BK396 2, bc_ BK396 3, bc_ BK396 4, bc_ BK396 5, bc_ BK396 6, (hb_ HB hw402_0), (hb_ HB hw402_1), (hb_ HB hw402_2), (hb_ HB hw402_3), (hb_ HB hw402_4), (hb_ HB hw402_5), (hb_ HB hw402_6), (hb_ HB hw406_0), (hb_ HB hw406_1), (hb_ HB hw406_2), (hb_ HB hw406_3), (hb_ HB hw406_4), (hb_ HB hw406_5), (hb_ HB hw406_6)⟩ (fun hHeld => ?_)
      clear hK K
      refine nm_ ?_
      refine one_ (i := 13) (N := some 39) (tf 14 2) rfl rfl (one_of HT_.out (by kernel_rfl)) (by decide) (fun K hK => ?_)
      refine gs_ Try.func75 #[.agg #[.int .i64 ((rd_T55 l0_6 1).f0), .int .i64 ((rd_T55 l0_6 1).f1), .int .i64 ((rd_T55 l0_6 1).f2.f0), .int .i64 ((rd_T55 l0_6 1).f2.f1), .string ((rd_T55 l0_6 1).f2.f2), .string ((rd_T55 l0_6 1).f3), .slice A406_6 ((rd_T55 l0_6 1).f4).length c406_6], .slice A1 l1.length c1] ?_
      with_reducible refine (ih k (by omega) ((rd_T55 l0_6 1).f0) ((rd_T55 l0_6 1).f1) ((rd_T55 l0_6 1).f2.f0) ((rd_T55 l0_6 1).f2.f1) ((rd_T55 l0_6 1).f2.f2) ((rd_T55 l0_6 1).f3) _ _ ((rd_T55 l0_6 1).f4) _ _ l1 t407 t408 t409 _ ?side1 ?side2 ?side3 ?side4 A28.out).mono ?_
      (case side1 => exact ck_ (Kd.C_below HR406_6.out HB.out))
      (case side2 => exact HC406_6.out)
      (case side3 => exact ck_ (Kd.C_below HR1.out HB.out))
      (case side4 => exact HC1.out)
      rintro e w36 ⟨rfl, hb⟩
      refine ⟨_, rfl, ?_⟩
      replace BK396 := bkb_ BK396 hb
      replace BK397 := bkb_ BK397 hb
      replace HB := bs_ hb
      (try clear hb)
      (try clear hb2)
      (try clear hk)
      (try clear hi)
      refine hK.out _ _ ⟨bc_ BK396 0, bc_ BK396 1, bc_ BK396 2, bc_ BK396 3, bc_ BK396 4, bc_ BK396 5, bc_ BK396 6, (hb_ HB hw402_0), (hb_ HB hw402_1), (hb_ HB hw402_2), (hb_ HB hw402_3), (hb_ HB hw402_4), (hb_ HB hw402_5), (hb_ HB hw402_6), (hb_ HB hw406_0), (hb_ HB hw406_1), (hb_ HB hw406_2), (hb_ HB hw406_3), (hb_ HB hw406_4), (hb_ HB hw406_5), (hb_ HB hw406_6)⟩ (fun hHeld => ?_)
      clear hK K
      refine nm_ ?_
      refine one_ (i := 14) (N := some 40) (tf 15 1) rfl rfl (one_of HT_.out (by kernel_rfl)) (by decide) (fun K hK => ?_)
      refine gs_ Try.func9 #[.string a0_5, .agg #[.int .i64 t403, .int .i64 t404, .string t405], .agg #[.int .i64 t407, .int .i64 t408, .string t409]] ?_
      with_reducible refine (impl_Reckon.calls k a0_5 t403 t404 t405 t407 t408 t409 t410 t411 t412 _ A29.out).mono ?_
      rintro e w37 ⟨rfl, hb⟩
      refine ⟨_, rfl, ?_⟩
      replace BK396 := bkb_ BK396 hb
      replace BK397 := bkb_ BK397 hb
      replace HB := bs_ hb
      (try clear hb)
      (try clear hb2)
      (try clear hk)
      (try clear hi)
      refine hK.out _ _ ⟨bc_ BK396 0, bc_ BK396 1, bc_ BK396 2, bc_ BK396 3, bc_ BK396 4, bc_ BK396 5, bc_ BK396 6, (hb_ HB hw402_0), (hb_ HB hw402_1), (hb_ HB hw402_2), (hb_ HB hw402_3), (hb_ HB hw402_4), (hb_ HB hw402_5), (hb_ HB hw402_6), (hb_ HB hw406_0), (hb_ HB hw406_1), (hb_ HB hw406_2), (hb_ HB hw406_3), (hb_ HB hw406_4), (hb_ HB hw406_5), (hb_ HB hw406_6)⟩ (fun hHeld => ?_)
      clear hK K
      refine nm_ ?_
      refine one_ (i := 15) (N := none) (tf 16 0) rfl rfl (one_of HT_.out (by kernel_rfl)) (by decide) (fun K hK => ?_)
      have hs38 : w37.cell? ⟨gb397, 0, none⟩ = some (.int .i64 0) := bc_ BK397 0
      have hfs38 := blk_frozen BK397.out 0
      have hns38_0 := NB396_397.out
      have hms38_0 := NB397_396.out
      have hs39 : w37.cell? ⟨gb397, 1, none⟩ = some (.int .i64 0) := bc_ BK397 1
      have hfs39 := blk_frozen BK397.out 1
      have hns39_0 := NB396_397.out
      have hms39_0 := NB397_396.out
      have hs40 : w37.cell? ⟨gb397, 2, none⟩ = some (.string (⟨#[]⟩ : ByteArray)) := bc_ BK397 2
      have hfs40 := blk_frozen BK397.out 2
      have hns40_0 := NB396_397.out
      have hms40_0 := NB397_396.out
      refine skip_ (w1 := ?_) (by rfl) rfl ?_ ?_
      rotate_left
      ·go_simp
       rfl
      refine hK.out _ _ ⟨(cf3_ NB396_397 (hHeld.1)), (cf3_ NB396_397 (hHeld.2.1)), (cf3_ NB396_397 (hHeld.2.2.1)), (cf3_ NB396_397 (hHeld.2.2.2.1)), (cf3_ NB396_397 (hHeld.2.2.2.2.1)), (cf3_ NB396_397 (hHeld.2.2.2.2.2.1)), (cf3_ NB396_397 (hHeld.2.2.2.2.2.2.1)), ((cell_far (p := ⟨gb397, _, none⟩) (by first | exact Nat.ne_of_lt (Nat.lt_of_lt_of_le (by have := World.block_lt_of_cell? _ _ hw402_0; first | rwa [add_block] at this | exact this) GW397.out) | (rw [add_block]; exact Nat.ne_of_lt (Nat.lt_of_lt_of_le (by have := World.block_lt_of_cell? _ _ hw402_0; first | rwa [add_block] at this | exact this) GW397.out)) | (show (Addr.add _ _).block ≠ _; rw [add_block]; exact Nat.ne_of_lt (Nat.lt_of_lt_of_le (by have := World.block_lt_of_cell? _ _ hw402_0; first | rwa [add_block] at this | exact this) GW397.out)) | (dsimp only; exact Nat.ne_of_lt (Nat.lt_of_lt_of_le (by have := World.block_lt_of_cell? _ _ hw402_0; first | rwa [add_block] at this | exact this) GW397.out))) _).trans (((cell_far (p := ⟨gb397, _, none⟩) (by first | exact Nat.ne_of_lt (Nat.lt_of_lt_of_le (by have := World.block_lt_of_cell? _ _ hw402_0; first | rwa [add_block] at this | exact this) GW397.out) | (rw [add_block]; exact Nat.ne_of_lt (Nat.lt_of_lt_of_le (by have := World.block_lt_of_cell? _ _ hw402_0; first | rwa [add_block] at this | exact this) GW397.out)) | (show (Addr.add _ _).block ≠ _; rw [add_block]; exact Nat.ne_of_lt (Nat.lt_of_lt_of_le (by have := World.block_lt_of_cell? _ _ hw402_0; first | rwa [add_block] at this | exact this) GW397.out)) | (dsimp only; exact Nat.ne_of_lt (Nat.lt_of_lt_of_le (by have := World.block_lt_of_cell? _ _ hw402_0; first | rwa [add_block] at this | exact this) GW397.out))) _).trans (((cell_far (p := ⟨gb397, _, none⟩) (by first | exact Nat.ne_of_lt (Nat.lt_of_lt_of_le (by have := World.block_lt_of_cell? _ _ hw402_0; first | rwa [add_block] at this | exact this) GW397.out) | (rw [add_block]; exact Nat.ne_of_lt (Nat.lt_of_lt_of_le (by have := World.block_lt_of_cell? _ _ hw402_0; first | rwa [add_block] at this | exact this) GW397.out)) | (show (Addr.add _ _).block ≠ _; rw [add_block]; exact Nat.ne_of_lt (Nat.lt_of_lt_of_le (by have := World.block_lt_of_cell? _ _ hw402_0; first | rwa [add_block] at this | exact this) GW397.out)) | (dsimp only; exact Nat.ne_of_lt (Nat.lt_of_lt_of_le (by have := World.block_lt_of_cell? _ _ hw402_0; first | rwa [add_block] at this | exact this) GW397.out))) _).trans (hHeld.2.2.2.2.2.2.2.1)))))), ((cell_far (p := ⟨gb397, _, none⟩) (by first | exact Nat.ne_of_lt (Nat.lt_of_lt_of_le (by have := World.block_lt_of_cell? _ _ hw402_1; first | rwa [add_block] at this | exact this) GW397.out) | (rw [add_block]; exact Nat.ne_of_lt (Nat.lt_of_lt_of_le (by have := World.block_lt_of_cell? _ _ hw402_1; first | rwa [add_block] at this | exact this) GW397.out)) | (show (Addr.add _ _).block ≠ _; rw [add_block]; exact Nat.ne_of_lt (Nat.lt_of_lt_of_le (by have := World.block_lt_of_cell? _ _ hw402_1; first | rwa [add_block] at this | exact this) GW397.out)) | (dsimp only; exact Nat.ne_of_lt (Nat.lt_of_lt_of_le (by have := World.block_lt_of_cell? _ _ hw402_1; first | rwa [add_block] at this | exact this) GW397.out))) _).trans (((cell_far (p := ⟨gb397, _, none⟩) (by first | exact Nat.ne_of_lt (Nat.lt_of_lt_of_le (by have := World.block_lt_of_cell? _ _ hw402_1; first | rwa [add_block] at this | exact this) GW397.out) | (rw [add_block]; exact Nat.ne_of_lt (Nat.lt_of_lt_of_le (by have := World.block_lt_of_cell? _ _ hw402_1; first | rwa [add_block] at this | exact this) GW397.out)) | (show (Addr.add _ _).block ≠ _; rw [add_block]; exact Nat.ne_of_lt (Nat.lt_of_lt_of_le (by have := World.block_lt_of_cell? _ _ hw402_1; first | rwa [add_block] at this | exact this) GW397.out)) | (dsimp only; exact Nat.ne_of_lt (Nat.lt_of_lt_of_le (by have := World.block_lt_of_cell? _ _ hw402_1; first | rwa [add_block] at this | exact this) GW397.out))) _).trans (((cell_far (p := ⟨gb397, _, none⟩) (by first | exact Nat.ne_of_lt (Nat.lt_of_lt_of_le (by have := World.block_lt_of_cell? _ _ hw402_1; first | rwa [add_block] at this | exact this) GW397.out) | (rw [add_block]; exact Nat.ne_of_lt (Nat.lt_of_lt_of_le (by have := World.block_lt_of_cell? _ _ hw402_1; first | rwa [add_block] at this | exact this) GW397.out)) | (show (Addr.add _ _).block ≠ _; rw [add_block]; exact Nat.ne_of_lt (Nat.lt_of_lt_of_le (by have := World.block_lt_of_cell? _ _ hw402_1; first | rwa [add_block] at this | exact this) GW397.out)) | (dsimp only; exact Nat.ne_of_lt (Nat.lt_of_lt_of_le (by have := World.block_lt_of_cell? _ _ hw402_1; first | rwa [add_block] at this | exact this) GW397.out))) _).trans (hHeld.2.2.2.2.2.2.2.2.1)))))), ((cell_far (p := ⟨gb397, _, none⟩) (by first | exact Nat.ne_of_lt (Nat.lt_of_lt_of_le (by have := World.block_lt_of_cell? _ _ hw402_2; first | rwa [add_block] at this | exact this) GW397.out) | (rw [add_block]; exact Nat.ne_of_lt (Nat.lt_of_lt_of_le (by have := World.block_lt_of_cell? _ _ hw402_2; first | rwa [add_block] at this | exact this) GW397.out)) | (show (Addr.add _ _).block ≠ _; rw [add_block]; exact Nat.ne_of_lt (Nat.lt_of_lt_of_le (by have := World.block_lt_of_cell? _ _ hw402_2; first | rwa [add_block] at this | exact this) GW397.out)) | (dsimp only; exact Nat.ne_of_lt (Nat.lt_of_lt_of_le (by have := World.block_lt_of_cell? _ _ hw402_2; first | rwa [add_block] at this | exact this) GW397.out))) _).trans (((cell_far (p := ⟨gb397, _, none⟩) (by first | exact Nat.ne_of_lt (Nat.lt_of_lt_of_le (by have := World.block_lt_of_cell? _ _ hw402_2; first | rwa [add_block] at this | exact this) GW397.out) | (rw [add_block]; exact Nat.ne_of_lt (Nat.lt_of_lt_of_le (by have := World.block_lt_of_cell? _ _ hw402_2; first | rwa [add_block] at this | exact this) GW397.out)) | (show (Addr.add _ _).block ≠ _; rw [add_block]; exact Nat.ne_of_lt (Nat.lt_of_lt_of_le (by have := World.block_lt_of_cell? _ _ hw402_2; first | rwa [add_block] at this | exact this) GW397.out)) | (dsimp only; exact Nat.ne_of_lt (Nat.lt_of_lt_of_le (by have := World.block_lt_of_cell? _ _ hw402_2; first | rwa [add_block] at this | exact this) GW397.out))) _).trans (((cell_far (p := ⟨gb397, _, none⟩) (by first | exact Nat.ne_of_lt (Nat.lt_of_lt_of_le (by have := World.block_lt_of_cell? _ _ hw402_2; first | rwa [add_block] at this | exact this) GW397.out) | (rw [add_block]; exact Nat.ne_of_lt (Nat.lt_of_lt_of_le (by have := World.block_lt_of_cell? _ _ hw402_2; first | rwa [add_block] at this | exact this) GW397.out)) | (show (Addr.add _ _).block ≠ _; rw [add_block]; exact Nat.ne_of_lt (Nat.lt_of_lt_of_le (by have := World.block_lt_of_cell? _ _ hw402_2; first | rwa [add_block] at this | exact this) GW397.out)) | (dsimp only; exact Nat.ne_of_lt (Nat.lt_of_lt_of_le (by have := World.block_lt_of_cell? _ _ hw402_2; first | rwa [add_block] at this | exact this) GW397.out))) _).trans (hHeld.2.2.2.2.2.2.2.2.2.1)))))), ((cell_far (p := ⟨gb397, _, none⟩) (by first | exact Nat.ne_of_lt (Nat.lt_of_lt_of_le (by have := World.block_lt_of_cell? _ _ hw402_3; first | rwa [add_block] at this | exact this) GW397.out) | (rw [add_block]; exact Nat.ne_of_lt (Nat.lt_of_lt_of_le (by have := World.block_lt_of_cell? _ _ hw402_3; first | rwa [add_block] at this | exact this) GW397.out)) | (show (Addr.add _ _).block ≠ _; rw [add_block]; exact Nat.ne_of_lt (Nat.lt_of_lt_of_le (by have := World.block_lt_of_cell? _ _ hw402_3; first | rwa [add_block] at this | exact this) GW397.out)) | (dsimp only; exact Nat.ne_of_lt (Nat.lt_of_lt_of_le (by have := World.block_lt_of_cell? _ _ hw402_3; first | rwa [add_block] at this | exact this) GW397.out))) _).trans (((cell_far (p := ⟨gb397, _, none⟩) (by first | exact Nat.ne_of_lt (Nat.lt_of_lt_of_le (by have := World.block_lt_of_cell? _ _ hw402_3; first | rwa [add_block] at this | exact this) GW397.out) | (rw [add_block]; exact Nat.ne_of_lt (Nat.lt_of_lt_of_le (by have := World.block_lt_of_cell? _ _ hw402_3; first | rwa [add_block] at this | exact this) GW397.out)) | (show (Addr.add _ _).block ≠ _; rw [add_block]; exact Nat.ne_of_lt (Nat.lt_of_lt_of_le (by have := World.block_lt_of_cell? _ _ hw402_3; first | rwa [add_block] at this | exact this) GW397.out)) | (dsimp only; exact Nat.ne_of_lt (Nat.lt_of_lt_of_le (by have := World.block_lt_of_cell? _ _ hw402_3; first | rwa [add_block] at this | exact this) GW397.out))) _).trans (((cell_far (p := ⟨gb397, _, none⟩) (by first | exact Nat.ne_of_lt (Nat.lt_of_lt_of_le (by have := World.block_lt_of_cell? _ _ hw402_3; first | rwa [add_block] at this | exact this) GW397.out) | (rw [add_block]; exact Nat.ne_of_lt (Nat.lt_of_lt_of_le (by have := World.block_lt_of_cell? _ _ hw402_3; first | rwa [add_block] at this | exact this) GW397.out)) | (show (Addr.add _ _).block ≠ _; rw [add_block]; exact Nat.ne_of_lt (Nat.lt_of_lt_of_le (by have := World.block_lt_of_cell? _ _ hw402_3; first | rwa [add_block] at this | exact this) GW397.out)) | (dsimp only; exact Nat.ne_of_lt (Nat.lt_of_lt_of_le (by have := World.block_lt_of_cell? _ _ hw402_3; first | rwa [add_block] at this | exact this) GW397.out))) _).trans (hHeld.2.2.2.2.2.2.2.2.2.2.1)))))), ((cell_far (p := ⟨gb397, _, none⟩) (by first | exact Nat.ne_of_lt (Nat.lt_of_lt_of_le (by have := World.block_lt_of_cell? _ _ hw402_4; first | rwa [add_block] at this | exact this) GW397.out) | (rw [add_block]; exact Nat.ne_of_lt (Nat.lt_of_lt_of_le (by have := World.block_lt_of_cell? _ _ hw402_4; first | rwa [add_block] at this | exact this) GW397.out)) | (show (Addr.add _ _).block ≠ _; rw [add_block]; exact Nat.ne_of_lt (Nat.lt_of_lt_of_le (by have := World.block_lt_of_cell? _ _ hw402_4; first | rwa [add_block] at this | exact this) GW397.out)) | (dsimp only; exact Nat.ne_of_lt (Nat.lt_of_lt_of_le (by have := World.block_lt_of_cell? _ _ hw402_4; first | rwa [add_block] at this | exact this) GW397.out))) _).trans (((cell_far (p := ⟨gb397, _, none⟩) (by first | exact Nat.ne_of_lt (Nat.lt_of_lt_of_le (by have := World.block_lt_of_cell? _ _ hw402_4; first | rwa [add_block] at this | exact this) GW397.out) | (rw [add_block]; exact Nat.ne_of_lt (Nat.lt_of_lt_of_le (by have := World.block_lt_of_cell? _ _ hw402_4; first | rwa [add_block] at this | exact this) GW397.out)) | (show (Addr.add _ _).block ≠ _; rw [add_block]; exact Nat.ne_of_lt (Nat.lt_of_lt_of_le (by have := World.block_lt_of_cell? _ _ hw402_4; first | rwa [add_block] at this | exact this) GW397.out)) | (dsimp only; exact Nat.ne_of_lt (Nat.lt_of_lt_of_le (by have := World.block_lt_of_cell? _ _ hw402_4; first | rwa [add_block] at this | exact this) GW397.out))) _).trans (((cell_far (p := ⟨gb397, _, none⟩) (by first | exact Nat.ne_of_lt (Nat.lt_of_lt_of_le (by have := World.block_lt_of_cell? _ _ hw402_4; first | rwa [add_block] at this | exact this) GW397.out) | (rw [add_block]; exact Nat.ne_of_lt (Nat.lt_of_lt_of_le (by have := World.block_lt_of_cell? _ _ hw402_4; first | rwa [add_block] at this | exact this) GW397.out)) | (show (Addr.add _ _).block ≠ _; rw [add_block]; exact Nat.ne_of_lt (Nat.lt_of_lt_of_le (by have := World.block_lt_of_cell? _ _ hw402_4; first | rwa [add_block] at this | exact this) GW397.out)) | (dsimp only; exact Nat.ne_of_lt (Nat.lt_of_lt_of_le (by have := World.block_lt_of_cell? _ _ hw402_4; first | rwa [add_block] at this | exact this) GW397.out))) _).trans (hHeld.2.2.2.2.2.2.2.2.2.2.2.1)))))), ((cell_far (p := ⟨gb397, _, none⟩) (by first | exact Nat.ne_of_lt (Nat.lt_of_lt_of_le (by have := World.block_lt_of_cell? _ _ hw402_5; first | rwa [add_block] at this | exact this) GW397.out) | (rw [add_block]; exact Nat.ne_of_lt (Nat.lt_of_lt_of_le (by have := World.block_lt_of_cell? _ _ hw402_5; first | rwa [add_block] at this | exact this) GW397.out)) | (show (Addr.add _ _).block ≠ _; rw [add_block]; exact Nat.ne_of_lt (Nat.lt_of_lt_of_le (by have := World.block_lt_of_cell? _ _ hw402_5; first | rwa [add_block] at this | exact this) GW397.out)) | (dsimp only; exact Nat.ne_of_lt (Nat.lt_of_lt_of_le (by have := World.block_lt_of_cell? _ _ hw402_5; first | rwa [add_block] at this | exact this) GW397.out))) _).trans (((cell_far (p := ⟨gb397, _, none⟩) (by first | exact Nat.ne_of_lt (Nat.lt_of_lt_of_le (by have := World.block_lt_of_cell? _ _ hw402_5; first | rwa [add_block] at this | exact this) GW397.out) | (rw [add_block]; exact Nat.ne_of_lt (Nat.lt_of_lt_of_le (by have := World.block_lt_of_cell? _ _ hw402_5; first | rwa [add_block] at this | exact this) GW397.out)) | (show (Addr.add _ _).block ≠ _; rw [add_block]; exact Nat.ne_of_lt (Nat.lt_of_lt_of_le (by have := World.block_lt_of_cell? _ _ hw402_5; first | rwa [add_block] at this | exact this) GW397.out)) | (dsimp only; exact Nat.ne_of_lt (Nat.lt_of_lt_of_le (by have := World.block_lt_of_cell? _ _ hw402_5; first | rwa [add_block] at this | exact this) GW397.out))) _).trans (((cell_far (p := ⟨gb397, _, none⟩) (by first | exact Nat.ne_of_lt (Nat.lt_of_lt_of_le (by have := World.block_lt_of_cell? _ _ hw402_5; first | rwa [add_block] at this | exact this) GW397.out) | (rw [add_block]; exact Nat.ne_of_lt (Nat.lt_of_lt_of_le (by have := World.block_lt_of_cell? _ _ hw402_5; first | rwa [add_block] at this | exact this) GW397.out)) | (show (Addr.add _ _).block ≠ _; rw [add_block]; exact Nat.ne_of_lt (Nat.lt_of_lt_of_le (by have := World.block_lt_of_cell? _ _ hw402_5; first | rwa [add_block] at this | exact this) GW397.out)) | (dsimp only; exact Nat.ne_of_lt (Nat.lt_of_lt_of_le (by have := World.block_lt_of_cell? _ _ hw402_5; first | rwa [add_block] at this | exact this) GW397.out))) _).trans (hHeld.2.2.2.2.2.2.2.2.2.2.2.2.1)))))), ((cell_far (p := ⟨gb397, _, none⟩) (by first | exact Nat.ne_of_lt (Nat.lt_of_lt_of_le (by have := World.block_lt_of_cell? _ _ hw402_6; first | rwa [add_block] at this | exact this) GW397.out) | (rw [add_block]; exact Nat.ne_of_lt (Nat.lt_of_lt_of_le (by have := World.block_lt_of_cell? _ _ hw402_6; first | rwa [add_block] at this | exact this) GW397.out)) | (show (Addr.add _ _).block ≠ _; rw [add_block]; exact Nat.ne_of_lt (Nat.lt_of_lt_of_le (by have := World.block_lt_of_cell? _ _ hw402_6; first | rwa [add_block] at this | exact this) GW397.out)) | (dsimp only; exact Nat.ne_of_lt (Nat.lt_of_lt_of_le (by have := World.block_lt_of_cell? _ _ hw402_6; first | rwa [add_block] at this | exact this) GW397.out))) _).trans (((cell_far (p := ⟨gb397, _, none⟩) (by first | exact Nat.ne_of_lt (Nat.lt_of_lt_of_le (by have := World.block_lt_of_cell? _ _ hw402_6; first | rwa [add_block] at this | exact this) GW397.out) | (rw [add_block]; exact Nat.ne_of_lt (Nat.lt_of_lt_of_le (by have := World.block_lt_of_cell? _ _ hw402_6; first | rwa [add_block] at this | exact this) GW397.out)) | (show (Addr.add _ _).block ≠ _; rw [add_block]; exact Nat.ne_of_lt (Nat.lt_of_lt_of_le (by have := World.block_lt_of_cell? _ _ hw402_6; first | rwa [add_block] at this | exact this) GW397.out)) | (dsimp only; exact Nat.ne_of_lt (Nat.lt_of_lt_of_le (by have := World.block_lt_of_cell? _ _ hw402_6; first | rwa [add_block] at this | exact this) GW397.out))) _).trans (((cell_far (p := ⟨gb397, _, none⟩) (by first | exact Nat.ne_of_lt (Nat.lt_of_lt_of_le (by have := World.block_lt_of_cell? _ _ hw402_6; first | rwa [add_block] at this | exact this) GW397.out) | (rw [add_block]; exact Nat.ne_of_lt (Nat.lt_of_lt_of_le (by have := World.block_lt_of_cell? _ _ hw402_6; first | rwa [add_block] at this | exact this) GW397.out)) | (show (Addr.add _ _).block ≠ _; rw [add_block]; exact Nat.ne_of_lt (Nat.lt_of_lt_of_le (by have := World.block_lt_of_cell? _ _ hw402_6; first | rwa [add_block] at this | exact this) GW397.out)) | (dsimp only; exact Nat.ne_of_lt (Nat.lt_of_lt_of_le (by have := World.block_lt_of_cell? _ _ hw402_6; first | rwa [add_block] at this | exact this) GW397.out))) _).trans (hHeld.2.2.2.2.2.2.2.2.2.2.2.2.2.1)))))), ((cell_far (p := ⟨gb397, _, none⟩) (by first | exact Nat.ne_of_lt (Nat.lt_of_lt_of_le (by have := World.block_lt_of_cell? _ _ hw406_0; first | rwa [add_block] at this | exact this) GW397.out) | (rw [add_block]; exact Nat.ne_of_lt (Nat.lt_of_lt_of_le (by have := World.block_lt_of_cell? _ _ hw406_0; first | rwa [add_block] at this | exact this) GW397.out)) | (show (Addr.add _ _).block ≠ _; rw [add_block]; exact Nat.ne_of_lt (Nat.lt_of_lt_of_le (by have := World.block_lt_of_cell? _ _ hw406_0; first | rwa [add_block] at this | exact this) GW397.out)) | (dsimp only; exact Nat.ne_of_lt (Nat.lt_of_lt_of_le (by have := World.block_lt_of_cell? _ _ hw406_0; first | rwa [add_block] at this | exact this) GW397.out))) _).trans (((cell_far (p := ⟨gb397, _, none⟩) (by first | exact Nat.ne_of_lt (Nat.lt_of_lt_of_le (by have := World.block_lt_of_cell? _ _ hw406_0; first | rwa [add_block] at this | exact this) GW397.out) | (rw [add_block]; exact Nat.ne_of_lt (Nat.lt_of_lt_of_le (by have := World.block_lt_of_cell? _ _ hw406_0; first | rwa [add_block] at this | exact this) GW397.out)) | (show (Addr.add _ _).block ≠ _; rw [add_block]; exact Nat.ne_of_lt (Nat.lt_of_lt_of_le (by have := World.block_lt_of_cell? _ _ hw406_0; first | rwa [add_block] at this | exact this) GW397.out)) | (dsimp only; exact Nat.ne_of_lt (Nat.lt_of_lt_of_le (by have := World.block_lt_of_cell? _ _ hw406_0; first | rwa [add_block] at this | exact this) GW397.out))) _).trans (((cell_far (p := ⟨gb397, _, none⟩) (by first | exact Nat.ne_of_lt (Nat.lt_of_lt_of_le (by have := World.block_lt_of_cell? _ _ hw406_0; first | rwa [add_block] at this | exact this) GW397.out) | (rw [add_block]; exact Nat.ne_of_lt (Nat.lt_of_lt_of_le (by have := World.block_lt_of_cell? _ _ hw406_0; first | rwa [add_block] at this | exact this) GW397.out)) | (show (Addr.add _ _).block ≠ _; rw [add_block]; exact Nat.ne_of_lt (Nat.lt_of_lt_of_le (by have := World.block_lt_of_cell? _ _ hw406_0; first | rwa [add_block] at this | exact this) GW397.out)) | (dsimp only; exact Nat.ne_of_lt (Nat.lt_of_lt_of_le (by have := World.block_lt_of_cell? _ _ hw406_0; first | rwa [add_block] at this | exact this) GW397.out))) _).trans (hHeld.2.2.2.2.2.2.2.2.2.2.2.2.2.2.1)))))), ((cell_far (p := ⟨gb397, _, none⟩) (by first | exact Nat.ne_of_lt (Nat.lt_of_lt_of_le (by have := World.block_lt_of_cell? _ _ hw406_1; first | rwa [add_block] at this | exact this) GW397.out) | (rw [add_block]; exact Nat.ne_of_lt (Nat.lt_of_lt_of_le (by have := World.block_lt_of_cell? _ _ hw406_1; first | rwa [add_block] at this | exact this) GW397.out)) | (show (Addr.add _ _).block ≠ _; rw [add_block]; exact Nat.ne_of_lt (Nat.lt_of_lt_of_le (by have := World.block_lt_of_cell? _ _ hw406_1; first | rwa [add_block] at this | exact this) GW397.out)) | (dsimp only; exact Nat.ne_of_lt (Nat.lt_of_lt_of_le (by have := World.block_lt_of_cell? _ _ hw406_1; first | rwa [add_block] at this | exact this) GW397.out))) _).trans (((cell_far (p := ⟨gb397, _, none⟩) (by first | exact Nat.ne_of_lt (Nat.lt_of_lt_of_le (by have := World.block_lt_of_cell? _ _ hw406_1; first | rwa [add_block] at this | exact this) GW397.out) | (rw [add_block]; exact Nat.ne_of_lt (Nat.lt_of_lt_of_le (by have := World.block_lt_of_cell? _ _ hw406_1; first | rwa [add_block] at this | exact this) GW397.out)) | (show (Addr.add _ _).block ≠ _; rw [add_block]; exact Nat.ne_of_lt (Nat.lt_of_lt_of_le (by have := World.block_lt_of_cell? _ _ hw406_1; first | rwa [add_block] at this | exact this) GW397.out)) | (dsimp only; exact Nat.ne_of_lt (Nat.lt_of_lt_of_le (by have := World.block_lt_of_cell? _ _ hw406_1; first | rwa [add_block] at this | exact this) GW397.out))) _).trans (((cell_far (p := ⟨gb397, _, none⟩) (by first | exact Nat.ne_of_lt (Nat.lt_of_lt_of_le (by have := World.block_lt_of_cell? _ _ hw406_1; first | rwa [add_block] at this | exact this) GW397.out) | (rw [add_block]; exact Nat.ne_of_lt (Nat.lt_of_lt_of_le (by have := World.block_lt_of_cell? _ _ hw406_1; first | rwa [add_block] at this | exact this) GW397.out)) | (show (Addr.add _ _).block ≠ _; rw [add_block]; exact Nat.ne_of_lt (Nat.lt_of_lt_of_le (by have := World.block_lt_of_cell? _ _ hw406_1; first | rwa [add_block] at this | exact this) GW397.out)) | (dsimp only; exact Nat.ne_of_lt (Nat.lt_of_lt_of_le (by have := World.block_lt_of_cell? _ _ hw406_1; first | rwa [add_block] at this | exact this) GW397.out))) _).trans (hHeld.2.2.2.2.2.2.2.2.2.2.2.2.2.2.2.1)))))), ((cell_far (p := ⟨gb397, _, none⟩) (by first | exact Nat.ne_of_lt (Nat.lt_of_lt_of_le (by have := World.block_lt_of_cell? _ _ hw406_2; first | rwa [add_block] at this | exact this) GW397.out) | (rw [add_block]; exact Nat.ne_of_lt (Nat.lt_of_lt_of_le (by have := World.block_lt_of_cell? _ _ hw406_2; first | rwa [add_block] at this | exact this) GW397.out)) | (show (Addr.add _ _).block ≠ _; rw [add_block]; exact Nat.ne_of_lt (Nat.lt_of_lt_of_le (by have := World.block_lt_of_cell? _ _ hw406_2; first | rwa [add_block] at this | exact this) GW397.out)) | (dsimp only; exact Nat.ne_of_lt (Nat.lt_of_lt_of_le (by have := World.block_lt_of_cell? _ _ hw406_2; first | rwa [add_block] at this | exact this) GW397.out))) _).trans (((cell_far (p := ⟨gb397, _, none⟩) (by first | exact Nat.ne_of_lt (Nat.lt_of_lt_of_le (by have := World.block_lt_of_cell? _ _ hw406_2; first | rwa [add_block] at this | exact this) GW397.out) | (rw [add_block]; exact Nat.ne_of_lt (Nat.lt_of_lt_of_le (by have := World.block_lt_of_cell? _ _ hw406_2; first | rwa [add_block] at this | exact this) GW397.out)) | (show (Addr.add _ _).block ≠ _; rw [add_block]; exact Nat.ne_of_lt (Nat.lt_of_lt_of_le (by have := World.block_lt_of_cell? _ _ hw406_2; first | rwa [add_block] at this | exact this) GW397.out)) | (dsimp only; exact Nat.ne_of_lt (Nat.lt_of_lt_of_le (by have := World.block_lt_of_cell? _ _ hw406_2; first | rwa [add_block] at this | exact this) GW397.out))) _).trans (((cell_far (p := ⟨gb397, _, none⟩) (by first | exact Nat.ne_of_lt (Nat.lt_of_lt_of_le (by have := World.block_lt_of_cell? _ _ hw406_2; first | rwa [add_block] at this | exact this) GW397.out) | (rw [add_block]; exact Nat.ne_of_lt (Nat.lt_of_lt_of_le (by have := World.block_lt_of_cell? _ _ hw406_2; first | rwa [add_block] at this | exact this) GW397.out)) | (show (Addr.add _ _).block ≠ _; rw [add_block]; exact Nat.ne_of_lt (Nat.lt_of_lt_of_le (by have := World.block_lt_of_cell? _ _ hw406_2; first | rwa [add_block] at this | exact this) GW397.out)) | (dsimp only; exact Nat.ne_of_lt (Nat.lt_of_lt_of_le (by have := World.block_lt_of_cell? _ _ hw406_2; first | rwa [add_block] at this | exact this) GW397.out))) _).trans (hHeld.2.2.2.2.2.2.2.2.2.2.2.2.2.2.2.2.1)))))), ((cell_far (p := ⟨gb397, _, none⟩) (by first | exact Nat.ne_of_lt (Nat.lt_of_lt_of_le (by have := World.block_lt_of_cell? _ _ hw406_3; first | rwa [add_block] at this | exact this) GW397.out) | (rw [add_block]; exact Nat.ne_of_lt (Nat.lt_of_lt_of_le (by have := World.block_lt_of_cell? _ _ hw406_3; first | rwa [add_block] at this | exact this) GW397.out)) | (show (Addr.add _ _).block ≠ _; rw [add_block]; exact Nat.ne_of_lt (Nat.lt_of_lt_of_le (by have := World.block_lt_of_cell? _ _ hw406_3; first | rwa [add_block] at this | exact this) GW397.out)) | (dsimp only; exact Nat.ne_of_lt (Nat.lt_of_lt_of_le (by have := World.block_lt_of_cell? _ _ hw406_3; first | rwa [add_block] at this | exact this) GW397.out))) _).trans (((cell_far (p := ⟨gb397, _, none⟩) (by first | exact Nat.ne_of_lt (Nat.lt_of_lt_of_le (by have := World.block_lt_of_cell? _ _ hw406_3; first | rwa [add_block] at this | exact this) GW397.out) | (rw [add_block]; exact Nat.ne_of_lt (Nat.lt_of_lt_of_le (by have := World.block_lt_of_cell? _ _ hw406_3; first | rwa [add_block] at this | exact this) GW397.out)) | (show (Addr.add _ _).block ≠ _; rw [add_block]; exact Nat.ne_of_lt (Nat.lt_of_lt_of_le (by have := World.block_lt_of_cell? _ _ hw406_3; first | rwa [add_block] at this | exact this) GW397.out)) | (dsimp only; exact Nat.ne_of_lt (Nat.lt_of_lt_of_le (by have := World.block_lt_of_cell? _ _ hw406_3; first | rwa [add_block] at this | exact this) GW397.out))) _).trans (((cell_far (p := ⟨gb397, _, none⟩) (by first | exact Nat.ne_of_lt (Nat.lt_of_lt_of_le (by have := World.block_lt_of_cell? _ _ hw406_3; first | rwa [add_block] at this | exact this) GW397.out) | (rw [add_block]; exact Nat.ne_of_lt (Nat.lt_of_lt_of_le (by have := World.block_lt_of_cell? _ _ hw406_3; first | rwa [add_block] at this | exact this) GW397.out)) | (show (Addr.add _ _).block ≠ _; rw [add_block]; exact Nat.ne_of_lt (Nat.lt_of_lt_of_le (by have := World.block_lt_of_cell? _ _ hw406_3; first | rwa [add_block] at this | exact this) GW397.out)) | (dsimp only; exact Nat.ne_of_lt (Nat.lt_of_lt_of_le (by have := World.block_lt_of_cell? _ _ hw406_3; first | rwa [add_block] at this | exact this) GW397.out))) _).trans (hHeld.2.2.2.2.2.2.2.2.2.2.2.2.2.2.2.2.2.1)))))), ((cell_far (p := ⟨gb397, _, none⟩) (by first | exact Nat.ne_of_lt (Nat.lt_of_lt_of_le (by have := World.block_lt_of_cell? _ _ hw406_4; first | rwa [add_block] at this | exact this) GW397.out) | (rw [add_block]; exact Nat.ne_of_lt (Nat.lt_of_lt_of_le (by have := World.block_lt_of_cell? _ _ hw406_4; first | rwa [add_block] at this | exact this) GW397.out)) | (show (Addr.add _ _).block ≠ _; rw [add_block]; exact Nat.ne_of_lt (Nat.lt_of_lt_of_le (by have := World.block_lt_of_cell? _ _ hw406_4; first | rwa [add_block] at this | exact this) GW397.out)) | (dsimp only; exact Nat.ne_of_lt (Nat.lt_of_lt_of_le (by have := World.block_lt_of_cell? _ _ hw406_4; first | rwa [add_block] at this | exact this) GW397.out))) _).trans (((cell_far (p := ⟨gb397, _, none⟩) (by first | exact Nat.ne_of_lt (Nat.lt_of_lt_of_le (by have := World.block_lt_of_cell? _ _ hw406_4; first | rwa [add_block] at this | exact this) GW397.out) | (rw [add_block]; exact Nat.ne_of_lt (Nat.lt_of_lt_of_le (by have := World.block_lt_of_cell? _ _ hw406_4; first | rwa [add_block] at this | exact this) GW397.out)) | (show (Addr.add _ _).block ≠ _; rw [add_block]; exact Nat.ne_of_lt (Nat.lt_of_lt_of_le (by have := World.block_lt_of_cell? _ _ hw406_4; first | rwa [add_block] at this | exact this) GW397.out)) | (dsimp only; exact Nat.ne_of_lt (Nat.lt_of_lt_of_le (by have := World.block_lt_of_cell? _ _ hw406_4; first | rwa [add_block] at this | exact this) GW397.out))) _).trans (((cell_far (p := ⟨gb397, _, none⟩) (by first | exact Nat.ne_of_lt (Nat.lt_of_lt_of_le (by have := World.block_lt_of_cell? _ _ hw406_4; first | rwa [add_block] at this | exact this) GW397.out) | (rw [add_block]; exact Nat.ne_of_lt (Nat.lt_of_lt_of_le (by have := World.block_lt_of_cell? _ _ hw406_4; first | rwa [add_block] at this | exact this) GW397.out)) | (show (Addr.add _ _).block ≠ _; rw [add_block]; exact Nat.ne_of_lt (Nat.lt_of_lt_of_le (by have := World.block_lt_of_cell? _ _ hw406_4; first | rwa [add_block] at this | exact this) GW397.out)) | (dsimp only; exact Nat.ne_of_lt (Nat.lt_of_lt_of_le (by have := World.block_lt_of_cell? _ _ hw406_4; first | rwa [add_block] at this | exact this) GW397.out))) _).trans (hHeld.2.2.2.2.2.2.2.2.2.2.2.2.2.2.2.2.2.2.1)))))), ((cell_far (p := ⟨gb397, _, none⟩) (by first | exact Nat.ne_of_lt (Nat.lt_of_lt_of_le (by have := World.block_lt_of_cell? _ _ hw406_5; first | rwa [add_block] at this | exact this) GW397.out) | (rw [add_block]; exact Nat.ne_of_lt (Nat.lt_of_lt_of_le (by have := World.block_lt_of_cell? _ _ hw406_5; first | rwa [add_block] at this | exact this) GW397.out)) | (show (Addr.add _ _).block ≠ _; rw [add_block]; exact Nat.ne_of_lt (Nat.lt_of_lt_of_le (by have := World.block_lt_of_cell? _ _ hw406_5; first | rwa [add_block] at this | exact this) GW397.out)) | (dsimp only; exact Nat.ne_of_lt (Nat.lt_of_lt_of_le (by have := World.block_lt_of_cell? _ _ hw406_5; first | rwa [add_block] at this | exact this) GW397.out))) _).trans (((cell_far (p := ⟨gb397, _, none⟩) (by first | exact Nat.ne_of_lt (Nat.lt_of_lt_of_le (by have := World.block_lt_of_cell? _ _ hw406_5; first | rwa [add_block] at this | exact this) GW397.out) | (rw [add_block]; exact Nat.ne_of_lt (Nat.lt_of_lt_of_le (by have := World.block_lt_of_cell? _ _ hw406_5; first | rwa [add_block] at this | exact this) GW397.out)) | (show (Addr.add _ _).block ≠ _; rw [add_block]; exact Nat.ne_of_lt (Nat.lt_of_lt_of_le (by have := World.block_lt_of_cell? _ _ hw406_5; first | rwa [add_block] at this | exact this) GW397.out)) | (dsimp only; exact Nat.ne_of_lt (Nat.lt_of_lt_of_le (by have := World.block_lt_of_cell? _ _ hw406_5; first | rwa [add_block] at this | exact this) GW397.out))) _).trans (((cell_far (p := ⟨gb397, _, none⟩) (by first | exact Nat.ne_of_lt (Nat.lt_of_lt_of_le (by have := World.block_lt_of_cell? _ _ hw406_5; first | rwa [add_block] at this | exact this) GW397.out) | (rw [add_block]; exact Nat.ne_of_lt (Nat.lt_of_lt_of_le (by have := World.block_lt_of_cell? _ _ hw406_5; first | rwa [add_block] at this | exact this) GW397.out)) | (show (Addr.add _ _).block ≠ _; rw [add_block]; exact Nat.ne_of_lt (Nat.lt_of_lt_of_le (by have := World.block_lt_of_cell? _ _ hw406_5; first | rwa [add_block] at this | exact this) GW397.out)) | (dsimp only; exact Nat.ne_of_lt (Nat.lt_of_lt_of_le (by have := World.block_lt_of_cell? _ _ hw406_5; first | rwa [add_block] at this | exact this) GW397.out))) _).trans (hHeld.2.2.2.2.2.2.2.2.2.2.2.2.2.2.2.2.2.2.2.1)))))), ((cell_far (p := ⟨gb397, _, none⟩) (by first | exact Nat.ne_of_lt (Nat.lt_of_lt_of_le (by have := World.block_lt_of_cell? _ _ hw406_6; first | rwa [add_block] at this | exact this) GW397.out) | (rw [add_block]; exact Nat.ne_of_lt (Nat.lt_of_lt_of_le (by have := World.block_lt_of_cell? _ _ hw406_6; first | rwa [add_block] at this | exact this) GW397.out)) | (show (Addr.add _ _).block ≠ _; rw [add_block]; exact Nat.ne_of_lt (Nat.lt_of_lt_of_le (by have := World.block_lt_of_cell? _ _ hw406_6; first | rwa [add_block] at this | exact this) GW397.out)) | (dsimp only; exact Nat.ne_of_lt (Nat.lt_of_lt_of_le (by have := World.block_lt_of_cell? _ _ hw406_6; first | rwa [add_block] at this | exact this) GW397.out))) _).trans (((cell_far (p := ⟨gb397, _, none⟩) (by first | exact Nat.ne_of_lt (Nat.lt_of_lt_of_le (by have := World.block_lt_of_cell? _ _ hw406_6; first | rwa [add_block] at this | exact this) GW397.out) | (rw [add_block]; exact Nat.ne_of_lt (Nat.lt_of_lt_of_le (by have := World.block_lt_of_cell? _ _ hw406_6; first | rwa [add_block] at this | exact this) GW397.out)) | (show (Addr.add _ _).block ≠ _; rw [add_block]; exact Nat.ne_of_lt (Nat.lt_of_lt_of_le (by have := World.block_lt_of_cell? _ _ hw406_6; first | rwa [add_block] at this | exact this) GW397.out)) | (dsimp only; exact Nat.ne_of_lt (Nat.lt_of_lt_of_le (by have := World.block_lt_of_cell? _ _ hw406_6; first | rwa [add_block] at this | exact this) GW397.out))) _).trans (((cell_far (p := ⟨gb397, _, none⟩) (by first | exact Nat.ne_of_lt (Nat.lt_of_lt_of_le (by have := World.block_lt_of_cell? _ _ hw406_6; first | rwa [add_block] at this | exact this) GW397.out) | (rw [add_block]; exact Nat.ne_of_lt (Nat.lt_of_lt_of_le (by have := World.block_lt_of_cell? _ _ hw406_6; first | rwa [add_block] at this | exact this) GW397.out)) | (show (Addr.add _ _).block ≠ _; rw [add_block]; exact Nat.ne_of_lt (Nat.lt_of_lt_of_le (by have := World.block_lt_of_cell? _ _ hw406_6; first | rwa [add_block] at this | exact this) GW397.out)) | (dsimp only; exact Nat.ne_of_lt (Nat.lt_of_lt_of_le (by have := World.block_lt_of_cell? _ _ hw406_6; first | rwa [add_block] at this | exact this) GW397.out))) _).trans (hHeld.2.2.2.2.2.2.2.2.2.2.2.2.2.2.2.2.2.2.2.2))))))⟩ (fun hHeld => ?_)
      clear hK K
      refine done_ (done_of HT_.out (by kernel_rfl)) ?_
      try go_wp2
      refine bodyPost_ret (results_cell_row rfl _ _ gb397 25 #[.int .i64 t410, .int .i64 t411, .string t412] (0, 0) _ rfl (bp3_ (bkx_ BK397.out)) Try.underlying25 rfl (by kernel_rfl)) rfl ?_
      exact ⟨er_, bb_⟩
     ·rw [if_neg c27] at H
      exact absurd H (by simp)
    ·rw [if_neg c25] at H
     exact absurd H (by simp)
   ·rw [if_neg c24] at H
    have c24b0 : (a0_0 == 2) = false := beq_eq_false_iff_ne.mpr c24
    have c24b1 : (a0_0 != 2) = true := bne_iff_ne.mpr c24
    by_cases c41 : a0_0 = 3
    ·rw [if_pos c41] at H
     have c41b0 : (a0_0 == 3) = true := beq_iff_eq.mpr c41
     have c41b1 : (a0_0 != 3) = false := bne_eq_false_iff_eq.mpr c41
     clear c41
     by_cases c42 : 0 < (l0_6.length : Int)
     ·rw [if_pos c42] at H
      have c42b0 : decide (0 < (l0_6.length : Int)) = true := decide_eq_true c42
      have c42b1 : decide (0 < l0_6.length) = true := decide_eq_true (by omega)
      clear c42
      replace H := Option.bind_eq_some_iff.mp H
      obtain ⟨⟨t414, t415, t416⟩, A430, H⟩ := H
      replace H : ((impl_Not.f t414 t415 t416).bind fun bt417 => (some (bt417.1, bt417.2.1, bt417.2.2))) = some (r1, r2, r3) := H
      have A43 := Aside0.mk A430
      clear A430
      replace H := Option.bind_eq_some_iff.mp H
      obtain ⟨⟨t417, t418, t419⟩, A440, H⟩ := H
      replace H : (some (t417, t418, t419)) = some (r1, r2, r3) := H
      have A44 := Aside0.mk A440
      clear A440
      simp only [Option.some.injEq, Prod.mk.injEq] at H
      obtain ⟨rfl, rfl, rfl⟩ := H
      go_enter Try.func75, Try.ntmps75
      go_wp2_with (first | ((with_reducible refine gate_dst (N := 2) rfl ?_); refine bx_ 2 #[.int .i64 a0_0, .int .i64 a0_1, .int .i64 a0_2, .int .i64 a0_3, .string a0_4, .string a0_5, .slice A0_6 l0_6.length c0_6] 55 ?_; intro gb396 hg w45 hbox hb; have BK396 := Aside0.mk (hbox); have GW396 := gw_ hg; have GE396 := gw_ hg; replace HB := bs_ hb; clear hb hbox hg) | ((with_reducible refine gate_dst (N := 4) rfl ?_); refine bx_ 4 #[.int .i64 0, .int .i64 0, .string (⟨#[]⟩ : ByteArray)] 25 ?_; intro gb397 hg w46 hbox hb; have BK397 := Aside0.mk (hbox); have GW397 := gw_ hg; have GE397 := gw_ hg; have NB396_397 := nl_ hg BK396; have NB397_396 := ng_ hg BK396; replace BK396 := bkb_ BK396 hb; replace HB := bs_ hb; clear hb hbox hg; have hnb47 := NB396_397.out; have hnc47 := NB397_396.out; obtain ⟨hcz48_0, hcz48_1, hcz48_2, hcz48_3, hcz48_4, hcz48_5, hcz48_6, hfz48_0, hfz48_1, hfz48_2, hfz48_3, hfz48_4, hfz48_5, hfz48_6⟩ := b7_ BK396; have p413 : 0 ≤ (0 : Int) := (by omega); have q413 : 0 < (l0_6.length : Int) := of_decide_eq_true (by first | (with_reducible assumption) | assumption); obtain ⟨ad413, A413_6, c413_6, e413, hx413_0, hx413_1, hx413_2, hx413_3, hx413_4, hx413_5, hx413_6, hl413_6, hi413_6⟩ := at_T55 HR0_6.out 0 p413 q413; cases e413; have qi413 : (0 < l0_6.length) = True := eq_true (by omega); (try rw [show ((0 : Int)).toNat = 0 from rfl] at hx413_0); (try rw [show 0 * 7 = 0 from rfl] at hx413_0); (try rw [Addr.add_zero'] at hx413_0); (try rw [show ((0 : Int)).toNat = 0 from rfl] at hx413_1); (try rw [show 0 * 7 = 0 from rfl] at hx413_1); (try rw [Addr.add_zero'] at hx413_1); (try rw [show ((0 : Int)).toNat = 0 from rfl] at hx413_2); (try rw [show 0 * 7 = 0 from rfl] at hx413_2); (try rw [Addr.add_zero'] at hx413_2); (try rw [show ((0 : Int)).toNat = 0 from rfl] at hx413_3); (try rw [show 0 * 7 = 0 from rfl] at hx413_3); (try rw [Addr.add_zero'] at hx413_3); (try rw [show ((0 : Int)).toNat = 0 from rfl] at hx413_4); (try rw [show 0 * 7 = 0 from rfl] at hx413_4); (try rw [Addr.add_zero'] at hx413_4); (try rw [show ((0 : Int)).toNat = 0 from rfl] at hx413_5); (try rw [show 0 * 7 = 0 from rfl] at hx413_5); (try rw [Addr.add_zero'] at hx413_5); (try rw [show ((0 : Int)).toNat = 0 from rfl] at hx413_6); (try rw [show 0 * 7 = 0 from rfl] at hx413_6); (try rw [Addr.add_zero'] at hx413_6); replace hx413_0 := hb_ HB hx413_0; replace hx413_1 := hb_ HB hx413_1; replace hx413_2 := hb_ HB hx413_2; replace hx413_3 := hb_ HB hx413_3; replace hx413_4 := hb_ HB hx413_4; replace hx413_5 := hb_ HB hx413_5; replace hx413_6 := hb_ HB hx413_6; have HR413_6 := Aside0.mk hi413_6; have HC413_6 := Aside0.mk hl413_6; clear hi413_6 hl413_6; replace p413 := eq_true p413; replace q413 := eq_true q413) | ((with_reducible refine gate_callee (f := 75) rfl ?_); refine gsL_ (some 48) Try.func75 #[.agg #[.int .i64 ((rd_T55 l0_6 0).f0), .int .i64 ((rd_T55 l0_6 0).f1), .int .i64 ((rd_T55 l0_6 0).f2.f0), .int .i64 ((rd_T55 l0_6 0).f2.f1), .string ((rd_T55 l0_6 0).f2.f2), .string ((rd_T55 l0_6 0).f3), .slice A413_6 ((rd_T55 l0_6 0).f4).length c413_6], .slice A1 l1.length c1] ?_; (with_reducible refine (ih k (by omega) ((rd_T55 l0_6 0).f0) ((rd_T55 l0_6 0).f1) ((rd_T55 l0_6 0).f2.f0) ((rd_T55 l0_6 0).f2.f1) ((rd_T55 l0_6 0).f2.f2) ((rd_T55 l0_6 0).f3) _ _ ((rd_T55 l0_6 0).f4) _ _ l1 t414 t415 t416 _ ?side1 ?side2 ?side3 ?side4 A43.out).mono ?_); (case side1 => exact ck_ (Kd.C_below HR413_6.out HB.out)); (case side2 => exact HC413_6.out); (case side3 => exact ck_ (Kd.C_below HR1.out HB.out)); (case side4 => exact HC1.out); rintro e w49 ⟨rfl, hb⟩; refine ⟨_, rfl, ?_⟩; replace BK396 := bkb_ BK396 hb; replace BK397 := bkb_ BK397 hb; replace HB := bs_ hb; (try clear hb); (try clear hb2); (try clear hk); (try clear hi)) | ((with_reducible refine gate_callee (f := 12) rfl ?_); refine gsL_ (some 49) Try.func12 #[.agg #[.int .i64 t414, .int .i64 t415, .string t416]] ?_; (with_reducible refine (impl_Not.calls t414 t415 t416 t417 t418 t419 _ A44.out).mono ?_); rintro e w50 ⟨rfl, hb⟩; refine ⟨_, rfl, ?_⟩; replace BK396 := bkb_ BK396 hb; replace BK397 := bkb_ BK397 hb; replace HB := bs_ hb; (try clear hb); (try clear hb2); (try clear hk); (try clear hi); obtain ⟨hcz51_0, hcz51_1, hcz51_2, hfz51_0, hfz51_1, hfz51_2⟩ := b3_ BK397))
      refine bodyPost_ret (results_cell_row rfl _ _ gb397 25 #[.int .i64 t417, .int .i64 t418, .string t419] (0, 0) _ rfl (bp3_ (bkx_ BK397.out)) Try.underlying25 rfl (by kernel_rfl)) rfl ?_
      exact ⟨er_, bb_⟩
     ·rw [if_neg c42] at H
      exact absurd H (by simp)
    ·rw [if_neg c41] at H
     have c41b0 : (a0_0 == 3) = false := beq_eq_false_iff_ne.mpr c41
     have c41b1 : (a0_0 != 3) = true := bne_iff_ne.mpr c41
     by_cases c52 : 0 < (l0_6.length : Int)
     ·rw [if_pos c52] at H
      have c52b0 : decide (0 < (l0_6.length : Int)) = true := decide_eq_true c52
      have c52b1 : decide (0 < l0_6.length) = true := decide_eq_true (by omega)
      clear c52
      replace H := Option.bind_eq_some_iff.mp H
      obtain ⟨⟨t421, t422, t423⟩, A530, H⟩ := H
      replace H : ((impl_IsNull.f t421 t422 t423).bind fun bt424 => (some (bt424.1, bt424.2.1, bt424.2.2))) = some (r1, r2, r3) := H
      have A53 := Aside0.mk A530
      clear A530
      replace H := Option.bind_eq_some_iff.mp H
      obtain ⟨⟨t424, t425, t426⟩, A540, H⟩ := H
      replace H : (some (t424, t425, t426)) = some (r1, r2, r3) := H
      have A54 := Aside0.mk A540
      clear A540
      simp only [Option.some.injEq, Prod.mk.injEq] at H
      obtain ⟨rfl, rfl, rfl⟩ := H
      go_enter Try.func75, Try.ntmps75
      go_wp2_with (first | ((with_reducible refine gate_dst (N := 2) rfl ?_); refine bx_ 2 #[.int .i64 a0_0, .int .i64 a0_1, .int .i64 a0_2, .int .i64 a0_3, .string a0_4, .string a0_5, .slice A0_6 l0_6.length c0_6] 55 ?_; intro gb396 hg w55 hbox hb; have BK396 := Aside0.mk (hbox); have GW396 := gw_ hg; have GE396 := gw_ hg; replace HB := bs_ hb; clear hb hbox hg) | ((with_reducible refine gate_dst (N := 4) rfl ?_); refine bx_ 4 #[.int .i64 0, .int .i64 0, .string (⟨#[]⟩ : ByteArray)] 25 ?_; intro gb397 hg w56 hbox hb; have BK397 := Aside0.mk (hbox); have GW397 := gw_ hg; have GE397 := gw_ hg; have NB396_397 := nl_ hg BK396; have NB397_396 := ng_ hg BK396; replace BK396 := bkb_ BK396 hb; replace HB := bs_ hb; clear hb hbox hg; have hnb57 := NB396_397.out; have hnc57 := NB397_396.out; obtain ⟨hcz58_0, hcz58_1, hcz58_2, hcz58_3, hcz58_4, hcz58_5, hcz58_6, hfz58_0, hfz58_1, hfz58_2, hfz58_3, hfz58_4, hfz58_5, hfz58_6⟩ := b7_ BK396; have p420 : 0 ≤ (0 : Int) := (by omega); have q420 : 0 < (l0_6.length : Int) := of_decide_eq_true (by first | (with_reducible assumption) | assumption); obtain ⟨ad420, A420_6, c420_6, e420, hx420_0, hx420_1, hx420_2, hx420_3, hx420_4, hx420_5, hx420_6, hl420_6, hi420_6⟩ := at_T55 HR0_6.out 0 p420 q420; cases e420; have qi420 : (0 < l0_6.length) = True := eq_true (by omega); (try rw [show ((0 : Int)).toNat = 0 from rfl] at hx420_0); (try rw [show 0 * 7 = 0 from rfl] at hx420_0); (try rw [Addr.add_zero'] at hx420_0); (try rw [show ((0 : Int)).toNat = 0 from rfl] at hx420_1); (try rw [show 0 * 7 = 0 from rfl] at hx420_1); (try rw [Addr.add_zero'] at hx420_1); (try rw [show ((0 : Int)).toNat = 0 from rfl] at hx420_2); (try rw [show 0 * 7 = 0 from rfl] at hx420_2); (try rw [Addr.add_zero'] at hx420_2); (try rw [show ((0 : Int)).toNat = 0 from rfl] at hx420_3); (try rw [show 0 * 7 = 0 from rfl] at hx420_3); (try rw [Addr.add_zero'] at hx420_3); (try rw [show ((0 : Int)).toNat = 0 from rfl] at hx420_4); (try rw [show 0 * 7 = 0 from rfl] at hx420_4); (try rw [Addr.add_zero'] at hx420_4); (try rw [show ((0 : Int)).toNat = 0 from rfl] at hx420_5); (try rw [show 0 * 7 = 0 from rfl] at hx420_5); (try rw [Addr.add_zero'] at hx420_5); (try rw [show ((0 : Int)).toNat = 0 from rfl] at hx420_6); (try rw [show 0 * 7 = 0 from rfl] at hx420_6); (try rw [Addr.add_zero'] at hx420_6); replace hx420_0 := hb_ HB hx420_0; replace hx420_1 := hb_ HB hx420_1; replace hx420_2 := hb_ HB hx420_2; replace hx420_3 := hb_ HB hx420_3; replace hx420_4 := hb_ HB hx420_4; replace hx420_5 := hb_ HB hx420_5; replace hx420_6 := hb_ HB hx420_6; have HR420_6 := Aside0.mk hi420_6; have HC420_6 := Aside0.mk hl420_6; clear hi420_6 hl420_6; replace p420 := eq_true p420; replace q420 := eq_true q420) | ((with_reducible refine gate_callee (f := 75) rfl ?_); refine gsL_ (some 55) Try.func75 #[.agg #[.int .i64 ((rd_T55 l0_6 0).f0), .int .i64 ((rd_T55 l0_6 0).f1), .int .i64 ((rd_T55 l0_6 0).f2.f0), .int .i64 ((rd_T55 l0_6 0).f2.f1), .string ((rd_T55 l0_6 0).f2.f2), .string ((rd_T55 l0_6 0).f3), .slice A420_6 ((rd_T55 l0_6 0).f4).length c420_6], .slice A1 l1.length c1] ?_; (with_reducible refine (ih k (by omega) ((rd_T55 l0_6 0).f0) ((rd_T55 l0_6 0).f1) ((rd_T55 l0_6 0).f2.f0) ((rd_T55 l0_6 0).f2.f1) ((rd_T55 l0_6 0).f2.f2) ((rd_T55 l0_6 0).f3) _ _ ((rd_T55 l0_6 0).f4) _ _ l1 t421 t422 t423 _ ?side1 ?side2 ?side3 ?side4 A53.out).mono ?_); (case side1 => exact ck_ (Kd.C_below HR420_6.out HB.out)); (case side2 => exact HC420_6.out); (case side3 => exact ck_ (Kd.C_below HR1.out HB.out)); (case side4 => exact HC1.out); rintro e w59 ⟨rfl, hb⟩; refine ⟨_, rfl, ?_⟩; replace BK396 := bkb_ BK396 hb; replace BK397 := bkb_ BK397 hb; replace HB := bs_ hb; (try clear hb); (try clear hb2); (try clear hk); (try clear hi)) | ((with_reducible refine gate_callee (f := 14) rfl ?_); refine gsL_ (some 56) Try.func14 #[.agg #[.int .i64 t421, .int .i64 t422, .string t423]] ?_; (with_reducible refine (impl_IsNull.calls t421 t422 t423 t424 t425 t426 _ A54.out).mono ?_); rintro e w60 ⟨rfl, hb⟩; refine ⟨_, rfl, ?_⟩; replace BK396 := bkb_ BK396 hb; replace BK397 := bkb_ BK397 hb; replace HB := bs_ hb; (try clear hb); (try clear hb2); (try clear hk); (try clear hi); obtain ⟨hcz61_0, hcz61_1, hcz61_2, hfz61_0, hfz61_1, hfz61_2⟩ := b3_ BK397))
      refine bodyPost_ret (results_cell_row rfl _ _ gb397 25 #[.int .i64 t424, .int .i64 t425, .string t426] (0, 0) _ rfl (bp3_ (bkx_ BK397.out)) Try.underlying25 rfl (by kernel_rfl)) rfl ?_
      exact ⟨er_, bb_⟩
     ·rw [if_neg c52] at H
      exact absurd H (by simp)

/-! ### impl_Eval: function 34 -/
def impl_Eval.f (k : Nat) (a0_0 : Int) (a0_1 : Int) (a0_2 : Int) (a0_3 : Int) (a0_4 : ByteArray) (a0_5 : ByteArray) (l0_6 : List (S55)) (l1 : List (S25)) : Option (Int × Int × ByteArray) := (impl_ExpOk.f k a0_0 a0_1 a0_2 a0_3 a0_4 a0_5 l0_6).bind fun t429 => (if t429 = true then ((impl_eval.f k a0_0 a0_1 a0_2 a0_3 a0_4 a0_5 l0_6 l1).bind fun bt430 => (some (bt430.1, bt430.2.1, bt430.2.2))) else ((impl_null.f).bind fun bt433 => (some (bt433.1, bt433.2.1, bt433.2.2))))
set_option maxHeartbeats 8000000 in
set_option maxRecDepth 100000 in
theorem impl_Eval.calls (k : Nat) (a0_0 : Int) (a0_1 : Int) (a0_2 : Int) (a0_3 : Int) (a0_4 : ByteArray) (a0_5 : ByteArray) (A0_6 : Option Addr) (c0_6 : Nat) (l0_6 : List (S55)) (A1 : Option Addr) (c1 : Nat) (l1 : List (S25)) (r1 : Int) (r2 : Int) (r3 : ByteArray) (w : World) (hr0_6 : Kd.C k55 w A0_6 l0_6.length l0_6) (hc0_6 : l0_6.length ≤ c0_6) (hr1 : Kd.C k25 w A1 l1.length l1) (hc1 : l1.length ≤ c1) (h : impl_Eval.f k a0_0 a0_1 a0_2 a0_3 a0_4 a0_5 l0_6 l1 = some (r1, r2, r3)) (hM : MaxLenIn w := by first | assumption | exact MaxLenIn.drewN (by assumption) _ | exact MaxLenIn.later (by assumption) (by assumption) | exact MaxLenIn.drewN (MaxLenIn.later (by assumption) (by assumption)) _) :
  Calls Try.prog 34 #[.agg #[.int .i64 a0_0, .int .i64 a0_1, .int .i64 a0_2, .int .i64 a0_3, .string a0_4, .string a0_5, .slice A0_6 l0_6.length c0_6], .slice A1 l1.length c1] w fun e w' => e = .returned (.agg #[.int .i64 r1, .int .i64 r2, .string r3]) ∧ Below w.heap.size w w' := by
 have hu55 := Try.underlying55
 have hu25 := Try.underlying25
 have HR0_6 := Aside0.mk hr0_6
 have HC0_6 := Aside0.mk hc0_6
 clear hr0_6 hc0_6
 have HR1 := Aside0.mk hr1
 have HC1 := Aside0.mk hc1
 clear hr1 hc1
 have HB := Aside0.mk (Below.refl w.heap.size w)
 have H : ((impl_ExpOk.f k a0_0 a0_1 a0_2 a0_3 a0_4 a0_5 l0_6).bind fun t429 => (if t429 = true then ((impl_eval.f k a0_0 a0_1 a0_2 a0_3 a0_4 a0_5 l0_6 l1).bind fun bt430 => (some (bt430.1, bt430.2.1, bt430.2.2))) else ((impl_null.f).bind fun bt433 => (some (bt433.1, bt433.2.1, bt433.2.2))))) = some (r1, r2, r3) := h
 clear h
 replace H := Option.bind_eq_some_iff.mp H
 obtain ⟨t429, A30, H⟩ := H
 replace H : (if t429 = true then ((impl_eval.f k a0_0 a0_1 a0_2 a0_3 a0_4 a0_5 l0_6 l1).bind fun bt430 => (some (bt430.1, bt430.2.1, bt430.2.2))) else ((impl_null.f).bind fun bt433 => (some (bt433.1, bt433.2.1, bt433.2.2)))) = some (r1, r2, r3) := H
 have A3 := Aside0.mk A30
 clear A30
 by_cases c4 : t429 = true
 ·subst c4
  have H1 : ((impl_eval.f k a0_0 a0_1 a0_2 a0_3 a0_4 a0_5 l0_6 l1).bind fun bt430 => (some (bt430.1, bt430.2.1, bt430.2.2))) = some (r1, r2, r3) := by rw [if_pos rfl] at H; exact H
  clear H
  have H := H1
  clear H1
  replace H := Option.bind_eq_some_iff.mp H
  obtain ⟨⟨t430, t431, t432⟩, A50, H⟩ := H
  replace H : (some (t430, t431, t432)) = some (r1, r2, r3) := H
  have A5 := Aside0.mk A50
  clear A50
  simp only [Option.some.injEq, Prod.mk.injEq] at H
  obtain ⟨rfl, rfl, rfl⟩ := H
  go_enter Try.func34, Try.ntmps34
  go_wp2_with (first | ((with_reducible refine gate_dst (N := 2) rfl ?_); refine bx_ 2 #[.int .i64 a0_0, .int .i64 a0_1, .int .i64 a0_2, .int .i64 a0_3, .string a0_4, .string a0_5, .slice A0_6 l0_6.length c0_6] 55 ?_; intro gb427 hg w6 hbox hb; have BK427 := Aside0.mk (hbox); have GW427 := gw_ hg; have GE427 := gw_ hg; replace HB := bs_ hb; clear hb hbox hg) | ((with_reducible refine gate_dst (N := 4) rfl ?_); refine bx_ 4 #[.int .i64 0, .int .i64 0, .string (⟨#[]⟩ : ByteArray)] 25 ?_; intro gb428 hg w7 hbox hb; have BK428 := Aside0.mk (hbox); have GW428 := gw_ hg; have GE428 := gw_ hg; have NB427_428 := nl_ hg BK427; have NB428_427 := ng_ hg BK427; replace BK427 := bkb_ BK427 hb; replace HB := bs_ hb; clear hb hbox hg; have hnb8 := NB427_428.out; have hnc8 := NB428_427.out; obtain ⟨hcz9_0, hcz9_1, hcz9_2, hcz9_3, hcz9_4, hcz9_5, hcz9_6, hfz9_0, hfz9_1, hfz9_2, hfz9_3, hfz9_4, hfz9_5, hfz9_6⟩ := b7_ BK427) | ((with_reducible refine gate_callee (f := 74) rfl ?_); refine gsL_ (some 6) Try.func74 #[.agg #[.int .i64 a0_0, .int .i64 a0_1, .int .i64 a0_2, .int .i64 a0_3, .string a0_4, .string a0_5, .slice A0_6 l0_6.length c0_6]] ?_; (with_reducible refine (impl_ExpOk.calls k a0_0 a0_1 a0_2 a0_3 a0_4 a0_5 _ _ l0_6 true _ ?side1 ?side2 A3.out).mono ?_); (case side1 => exact ck_ (Kd.C_below HR0_6.out HB.out)); (case side2 => exact HC0_6.out); rintro e w10 ⟨rfl, hb⟩; refine ⟨_, rfl, ?_⟩; replace BK427 := bkb_ BK427 hb; replace BK428 := bkb_ BK428 hb; replace HB := bs_ hb; (try clear hb); (try clear hb2); (try clear hk); (try clear hi); obtain ⟨hcz11_0, hcz11_1, hcz11_2, hcz11_3, hcz11_4, hcz11_5, hcz11_6, hfz11_0, hfz11_1, hfz11_2, hfz11_3, hfz11_4, hfz11_5, hfz11_6⟩ := b7_ BK427) | ((with_reducible refine gate_callee (f := 75) rfl ?_); refine gsL_ (some 11) Try.func75 #[.agg #[.int .i64 a0_0, .int .i64 a0_1, .int .i64 a0_2, .int .i64 a0_3, .string a0_4, .string a0_5, .slice A0_6 l0_6.length c0_6], .slice A1 l1.length c1] ?_; (with_reducible refine (impl_eval.calls k a0_0 a0_1 a0_2 a0_3 a0_4 a0_5 _ _ l0_6 _ _ l1 t430 t431 t432 _ ?side1 ?side2 ?side3 ?side4 A5.out).mono ?_); (case side1 => exact ck_ (Kd.C_below HR0_6.out HB.out)); (case side2 => exact HC0_6.out); (case side3 => exact ck_ (Kd.C_below HR1.out HB.out)); (case side4 => exact HC1.out); rintro e w12 ⟨rfl, hb⟩; refine ⟨_, rfl, ?_⟩; replace BK427 := bkb_ BK427 hb; replace BK428 := bkb_ BK428 hb; replace HB := bs_ hb; (try clear hb); (try clear hb2); (try clear hk); (try clear hi); obtain ⟨hcz13_0, hcz13_1, hcz13_2, hfz13_0, hfz13_1, hfz13_2⟩ := b3_ BK428))
  refine bodyPost_ret (results_cell_row rfl _ _ gb428 25 #[.int .i64 t430, .int .i64 t431, .string t432] (0, 0) _ rfl (bp3_ (bkx_ BK428.out)) Try.underlying25 rfl (by kernel_rfl)) rfl ?_
  exact ⟨er_, bb_⟩
 ·replace c4 := Bool.eq_false_iff.mpr c4
  subst c4
  have H1 : ((impl_null.f).bind fun bt433 => (some (bt433.1, bt433.2.1, bt433.2.2))) = some (r1, r2, r3) := by rw [if_neg (show ¬ (false = true) by decide)] at H; exact H
  clear H
  have H := H1
  clear H1
  replace H := Option.bind_eq_some_iff.mp H
  obtain ⟨⟨t433, t434, t435⟩, A140, H⟩ := H
  replace H : (some (t433, t434, t435)) = some (r1, r2, r3) := H
  have A14 := Aside0.mk A140
  clear A140
  simp only [Option.some.injEq, Prod.mk.injEq] at H
  obtain ⟨rfl, rfl, rfl⟩ := H
  go_enter Try.func34, Try.ntmps34
  go_wp2_with (first | ((with_reducible refine gate_dst (N := 2) rfl ?_); refine bx_ 2 #[.int .i64 a0_0, .int .i64 a0_1, .int .i64 a0_2, .int .i64 a0_3, .string a0_4, .string a0_5, .slice A0_6 l0_6.length c0_6] 55 ?_; intro gb427 hg w15 hbox hb; have BK427 := Aside0.mk (hbox); have GW427 := gw_ hg; have GE427 := gw_ hg; replace HB := bs_ hb; clear hb hbox hg) | ((with_reducible refine gate_dst (N := 4) rfl ?_); refine bx_ 4 #[.int .i64 0, .int .i64 0, .string (⟨#[]⟩ : ByteArray)] 25 ?_; intro gb428 hg w16 hbox hb; have BK428 := Aside0.mk (hbox); have GW428 := gw_ hg; have GE428 := gw_ hg; have NB427_428 := nl_ hg BK427; have NB428_427 := ng_ hg BK427; replace BK427 := bkb_ BK427 hb; replace HB := bs_ hb; clear hb hbox hg; have hnb17 := NB427_428.out; have hnc17 := NB428_427.out; obtain ⟨hcz18_0, hcz18_1, hcz18_2, hcz18_3, hcz18_4, hcz18_5, hcz18_6, hfz18_0, hfz18_1, hfz18_2, hfz18_3, hfz18_4, hfz18_5, hfz18_6⟩ := b7_ BK427) | ((with_reducible refine gate_callee (f := 74) rfl ?_); refine gsL_ (some 6) Try.func74 #[.agg #[.int .i64 a0_0, .int .i64 a0_1, .int .i64 a0_2, .int .i64 a0_3, .string a0_4, .string a0_5, .slice A0_6 l0_6.length c0_6]] ?_; (with_reducible refine (impl_ExpOk.calls k a0_0 a0_1 a0_2 a0_3 a0_4 a0_5 _ _ l0_6 false _ ?side1 ?side2 A3.out).mono ?_); (case side1 => exact ck_ (Kd.C_below HR0_6.out HB.out)); (case side2 => exact HC0_6.out); rintro e w19 ⟨rfl, hb⟩; refine ⟨_, rfl, ?_⟩; replace BK427 := bkb_ BK427 hb; replace BK428 := bkb_ BK428 hb; replace HB := bs_ hb; (try clear hb); (try clear hb2); (try clear hk); (try clear hi)) | ((with_reducible refine gate_callee (f := 46) rfl ?_); refine gsL_ (some 8) Try.func46 #[] ?_; (with_reducible refine (impl_null.calls  t433 t434 t435 _ A14.out).mono ?_); rintro e w20 ⟨rfl, hb⟩; refine ⟨_, rfl, ?_⟩; replace BK427 := bkb_ BK427 hb; replace BK428 := bkb_ BK428 hb; replace HB := bs_ hb; (try clear hb); (try clear hb2); (try clear hk); (try clear hi); obtain ⟨hcz21_0, hcz21_1, hcz21_2, hfz21_0, hfz21_1, hfz21_2⟩ := b3_ BK428))
  refine bodyPost_ret (results_cell_row rfl _ _ gb428 25 #[.int .i64 t433, .int .i64 t434, .string t435] (0, 0) _ rfl (bp3_ (bkx_ BK428.out)) Try.underlying25 rfl (by kernel_rfl)) rfl ?_
  exact ⟨er_, bb_⟩

/-! ### laws_eqValue: function 35 -/
def laws_eqValue.f (a0_0 : Int) (a0_1 : Int) (a0_2 : ByteArray) (a1_0 : Int) (a1_1 : Int) (a1_2 : ByteArray) : Option (Bool) := if a0_0 = a1_0 then (if a0_1 = a1_1 then (if a0_2.toList = a1_2.toList then (some true) else (some false)) else (some false)) else (some false)
set_option maxHeartbeats 8000000 in
set_option maxRecDepth 100000 in
theorem laws_eqValue.calls (a0_0 : Int) (a0_1 : Int) (a0_2 : ByteArray) (a1_0 : Int) (a1_1 : Int) (a1_2 : ByteArray) (r : Bool) (w : World) (h : laws_eqValue.f a0_0 a0_1 a0_2 a1_0 a1_1 a1_2 = some r) :
  Calls Try.prog 35 #[.agg #[.int .i64 a0_0, .int .i64 a0_1, .string a0_2], .agg #[.int .i64 a1_0, .int .i64 a1_1, .string a1_2]] w fun e w' => e = .returned (.bool r) ∧ Below w.heap.size w w' := by
 have hu25 := Try.underlying25
 have HB := Aside0.mk (Below.refl w.heap.size w)
 have H : (if a0_0 = a1_0 then (if a0_1 = a1_1 then (if a0_2.toList = a1_2.toList then (some true) else (some false)) else (some false)) else (some false)) = some r := h
 clear h
 by_cases c3 : a0_0 = a1_0
 ·rw [if_pos c3] at H
  have c3b0 : (a0_0 == a1_0) = true := beq_iff_eq.mpr c3
  have c3b1 : (a0_0 != a1_0) = false := bne_eq_false_iff_eq.mpr c3
  clear c3
  by_cases c4 : a0_1 = a1_1
  ·rw [if_pos c4] at H
   have c4b0 : (a0_1 == a1_1) = true := beq_iff_eq.mpr c4
   have c4b1 : (a0_1 != a1_1) = false := bne_eq_false_iff_eq.mpr c4
   clear c4
   by_cases c5 : a0_2.toList = a1_2.toList
   ·rw [if_pos c5] at H
    have c5b0 : (a0_2.toList == a1_2.toList) = true := beq_iff_eq.mpr c5
    have c5b1 : (a0_2.toList != a1_2.toList) = false := bne_eq_false_iff_eq.mpr c5
    clear c5
    obtain rfl := Option.some.inj H
    go_enter Try.func35, Try.ntmps35
    go_wp2_with (first | ((with_reducible refine gate_dst (N := 2) rfl ?_); refine bx_ 2 #[.int .i64 a0_0, .int .i64 a0_1, .string a0_2] 25 ?_; intro gb436 hg w6 hbox hb; have BK436 := Aside0.mk (hbox); have GW436 := gw_ hg; have GE436 := gw_ hg; replace HB := bs_ hb; clear hb hbox hg) | ((with_reducible refine gate_dst (N := 3) rfl ?_); refine bx_ 3 #[.int .i64 a1_0, .int .i64 a1_1, .string a1_2] 25 ?_; intro gb437 hg w7 hbox hb; have BK437 := Aside0.mk (hbox); have GW437 := gw_ hg; have GE437 := gw_ hg; have NB436_437 := nl_ hg BK436; have NB437_436 := ng_ hg BK436; replace BK436 := bkb_ BK436 hb; replace HB := bs_ hb; clear hb hbox hg; have hnb8 := NB436_437.out; have hnc8 := NB437_436.out; obtain ⟨hcz9_0, hcz9_1, hcz9_2, hfz9_0, hfz9_1, hfz9_2⟩ := b3_ BK436; obtain ⟨hcz10_0, hcz10_1, hcz10_2, hfz10_0, hfz10_1, hfz10_2⟩ := b3_ BK437))
    go_ret
    exact ⟨er_, bb_⟩
   ·rw [if_neg c5] at H
    have c5b0 : (a0_2.toList == a1_2.toList) = false := beq_eq_false_iff_ne.mpr c5
    have c5b1 : (a0_2.toList != a1_2.toList) = true := bne_iff_ne.mpr c5
    obtain rfl := Option.some.inj H
    go_enter Try.func35, Try.ntmps35
    go_wp2_with (first | ((with_reducible refine gate_dst (N := 2) rfl ?_); refine bx_ 2 #[.int .i64 a0_0, .int .i64 a0_1, .string a0_2] 25 ?_; intro gb436 hg w11 hbox hb; have BK436 := Aside0.mk (hbox); have GW436 := gw_ hg; have GE436 := gw_ hg; replace HB := bs_ hb; clear hb hbox hg) | ((with_reducible refine gate_dst (N := 3) rfl ?_); refine bx_ 3 #[.int .i64 a1_0, .int .i64 a1_1, .string a1_2] 25 ?_; intro gb437 hg w12 hbox hb; have BK437 := Aside0.mk (hbox); have GW437 := gw_ hg; have GE437 := gw_ hg; have NB436_437 := nl_ hg BK436; have NB437_436 := ng_ hg BK436; replace BK436 := bkb_ BK436 hb; replace HB := bs_ hb; clear hb hbox hg; have hnb13 := NB436_437.out; have hnc13 := NB437_436.out; obtain ⟨hcz14_0, hcz14_1, hcz14_2, hfz14_0, hfz14_1, hfz14_2⟩ := b3_ BK436; obtain ⟨hcz15_0, hcz15_1, hcz15_2, hfz15_0, hfz15_1, hfz15_2⟩ := b3_ BK437))
    go_ret
    exact ⟨er_, bb_⟩
  ·rw [if_neg c4] at H
   have c4b0 : (a0_1 == a1_1) = false := beq_eq_false_iff_ne.mpr c4
   have c4b1 : (a0_1 != a1_1) = true := bne_iff_ne.mpr c4
   obtain rfl := Option.some.inj H
   go_enter Try.func35, Try.ntmps35
   go_wp2_with (first | ((with_reducible refine gate_dst (N := 2) rfl ?_); refine bx_ 2 #[.int .i64 a0_0, .int .i64 a0_1, .string a0_2] 25 ?_; intro gb436 hg w16 hbox hb; have BK436 := Aside0.mk (hbox); have GW436 := gw_ hg; have GE436 := gw_ hg; replace HB := bs_ hb; clear hb hbox hg) | ((with_reducible refine gate_dst (N := 3) rfl ?_); refine bx_ 3 #[.int .i64 a1_0, .int .i64 a1_1, .string a1_2] 25 ?_; intro gb437 hg w17 hbox hb; have BK437 := Aside0.mk (hbox); have GW437 := gw_ hg; have GE437 := gw_ hg; have NB436_437 := nl_ hg BK436; have NB437_436 := ng_ hg BK436; replace BK436 := bkb_ BK436 hb; replace HB := bs_ hb; clear hb hbox hg; have hnb18 := NB436_437.out; have hnc18 := NB437_436.out; obtain ⟨hcz19_0, hcz19_1, hcz19_2, hfz19_0, hfz19_1, hfz19_2⟩ := b3_ BK436; obtain ⟨hcz20_0, hcz20_1, hcz20_2, hfz20_0, hfz20_1, hfz20_2⟩ := b3_ BK437))
   go_ret
   exact ⟨er_, bb_⟩
 ·rw [if_neg c3] at H
  have c3b0 : (a0_0 == a1_0) = false := beq_eq_false_iff_ne.mpr c3
  have c3b1 : (a0_0 != a1_0) = true := bne_iff_ne.mpr c3
  obtain rfl := Option.some.inj H
  go_enter Try.func35, Try.ntmps35
  go_wp2_with (first | ((with_reducible refine gate_dst (N := 2) rfl ?_); refine bx_ 2 #[.int .i64 a0_0, .int .i64 a0_1, .string a0_2] 25 ?_; intro gb436 hg w21 hbox hb; have BK436 := Aside0.mk (hbox); have GW436 := gw_ hg; have GE436 := gw_ hg; replace HB := bs_ hb; clear hb hbox hg) | ((with_reducible refine gate_dst (N := 3) rfl ?_); refine bx_ 3 #[.int .i64 a1_0, .int .i64 a1_1, .string a1_2] 25 ?_; intro gb437 hg w22 hbox hb; have BK437 := Aside0.mk (hbox); have GW437 := gw_ hg; have GE437 := gw_ hg; have NB436_437 := nl_ hg BK436; have NB437_436 := ng_ hg BK436; replace BK436 := bkb_ BK436 hb; replace HB := bs_ hb; clear hb hbox hg; have hnb23 := NB436_437.out; have hnc23 := NB437_436.out; obtain ⟨hcz24_0, hcz24_1, hcz24_2, hfz24_0, hfz24_1, hfz24_2⟩ := b3_ BK436; obtain ⟨hcz25_0, hcz25_1, hcz25_2, hfz25_0, hfz25_1, hfz25_2⟩ := b3_ BK437))
  go_ret
  exact ⟨er_, bb_⟩

end Go.Proofs.Ythgdmdabdlgliaa.PFnExactEval
