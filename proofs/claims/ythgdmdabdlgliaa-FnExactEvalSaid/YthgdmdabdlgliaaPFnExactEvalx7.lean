-- WRITTEN BY xprint.py, a program of this session over the kit's printer: by nobody's hand
-- PRESSED
import Derived.Test.YthgdmdabdlgliaaPress
import Derived.Test.YthgdmdabdlgliaaPFnExactEvalx0
import Derived.Test.YthgdmdabdlgliaaPFnExactEvalx4
import Derived.Test.YthgdmdabdlgliaaPFnExactEvalx6
namespace Go.Proofs.Ythgdmdabdlgliaa.PFnExactEval
open Go.RowKit Go.Proofs.YthgdmdabdlgliaaW.PrintWords Go.Proofs.YthgdmdabdlgliaaW.PrintLast Go.Proofs.YthgdmdabdlgliaaW.PrintMore
set_option linter.unusedVariables false
set_option linter.unusedSimpArgs false

/-! ### spec_l03Eval: function 71 -/
def spec_l03Eval.f : Nat → Int → Int → Int → Int → ByteArray → ByteArray → List (S55) → List (S25) → Option (Int × Int × ByteArray)
 | 0, _, _, _, _, _, _, _, _ => none
 | k + 1, a0_0, a0_1, a0_2, a0_3, a0_4, a0_5, l0_6, l1 => if a0_0 = 0 then (if a0_1 ≥ (l1.length : Int) then (some (0, 0, (⟨#[]⟩ : ByteArray))) else (if 0 ≤ a0_1 then (if a0_1 < (l1.length : Int) then (some ((rd_T25 l1 a0_1).f0, (rd_T25 l1 a0_1).f1, (rd_T25 l1 a0_1).f2)) else (none)) else (none))) else (if a0_0 = 1 then (some (a0_2, a0_3, a0_4)) else (if a0_0 = 2 then (if 0 < (l0_6.length : Int) then ((spec_l03Eval.f k ((rd_T55 l0_6 0).f0) ((rd_T55 l0_6 0).f1) ((rd_T55 l0_6 0).f2.f0) ((rd_T55 l0_6 0).f2.f1) ((rd_T55 l0_6 0).f2.f2) ((rd_T55 l0_6 0).f3) ((rd_T55 l0_6 0).f4) l1).bind fun bt219 => (if 1 < (l0_6.length : Int) then ((spec_l03Eval.f k ((rd_T55 l0_6 1).f0) ((rd_T55 l0_6 1).f1) ((rd_T55 l0_6 1).f2.f0) ((rd_T55 l0_6 1).f2.f1) ((rd_T55 l0_6 1).f2.f2) ((rd_T55 l0_6 1).f3) ((rd_T55 l0_6 1).f4) l1).bind fun bt223 => ((spec_Reckon.f k a0_5 bt219.1 bt219.2.1 bt219.2.2 bt223.1 bt223.2.1 bt223.2.2).bind fun bt226 => (some (bt226.1, bt226.2.1, bt226.2.2)))) else (none))) else (none)) else (if a0_0 = 3 then (if 0 < (l0_6.length : Int) then ((spec_l03Eval.f k ((rd_T55 l0_6 0).f0) ((rd_T55 l0_6 0).f1) ((rd_T55 l0_6 0).f2.f0) ((rd_T55 l0_6 0).f2.f1) ((rd_T55 l0_6 0).f2.f2) ((rd_T55 l0_6 0).f3) ((rd_T55 l0_6 0).f4) l1).bind fun bt230 => ((spec_Not.f bt230.1 bt230.2.1 bt230.2.2).bind fun bt233 => (some (bt233.1, bt233.2.1, bt233.2.2)))) else (none)) else (if 0 < (l0_6.length : Int) then ((spec_l03Eval.f k ((rd_T55 l0_6 0).f0) ((rd_T55 l0_6 0).f1) ((rd_T55 l0_6 0).f2.f0) ((rd_T55 l0_6 0).f2.f1) ((rd_T55 l0_6 0).f2.f2) ((rd_T55 l0_6 0).f3) ((rd_T55 l0_6 0).f4) l1).bind fun bt237 => ((spec_IsNull.f bt237.1 bt237.2.1 bt237.2.2).bind fun bt240 => (some (bt240.1, bt240.2.1, bt240.2.2)))) else (none)))))
def spec_l03Eval.T9 : Bool × List (List Nat × List Nat) := (true, [([], []), ([0], [0]), ([], []), ([2], [2]), ([3], [3]), ([4], [4]), ([], []), ([5, 6], [5, 6]), ([], []), ([8], [8]), ([9], [9]), ([10], [10]), ([], []), ([11, 12, 7], [11, 12]), ([1, 7, 13, 13], [1, 7, 13]), ([14, 14, 0, 1, 2, 3, 4, 5, 6, 7, 8, 9, 10, 11, 12, 13, 14], [14])])
def spec_l03Eval.B9 : List Nat := [0, 1, 0, 4, 12, 28, 0, 124, 0, 256, 768, 1792, 0, 8188, 16383, 32767]
theorem spec_l03Eval.tab9 : rtab .any (opsOf Try.f71 9) = spec_l03Eval.T9 := by kernel_rfl
theorem spec_l03Eval.bits9 : waitsOk spec_l03Eval.T9.2 spec_l03Eval.B9 = true := by kernel_rfl
set_option maxHeartbeats 8000000 in
set_option maxRecDepth 100000 in
theorem spec_l03Eval.calls (k : Nat) : ∀ (a0_0 : Int) (a0_1 : Int) (a0_2 : Int) (a0_3 : Int) (a0_4 : ByteArray) (a0_5 : ByteArray) (A0_6 : Option Addr) (c0_6 : Nat) (l0_6 : List (S55)) (A1 : Option Addr) (c1 : Nat) (l1 : List (S25)) (r1 : Int) (r2 : Int) (r3 : ByteArray) (w : World) (hr0_6 : Kd.C k55 w A0_6 l0_6.length l0_6) (hc0_6 : l0_6.length ≤ c0_6) (hr1 : Kd.C k25 w A1 l1.length l1) (hc1 : l1.length ≤ c1) (h : spec_l03Eval.f k a0_0 a0_1 a0_2 a0_3 a0_4 a0_5 l0_6 l1 = some (r1, r2, r3)),
  Calls Try.prog 71 #[.agg #[.int .i64 a0_0, .int .i64 a0_1, .int .i64 a0_2, .int .i64 a0_3, .string a0_4, .string a0_5, .slice A0_6 l0_6.length c0_6], .slice A1 l1.length c1] w fun e w' => e = .returned (.agg #[.int .i64 r1, .int .i64 r2, .string r3]) ∧ Below w.heap.size w w' := by
 induction k using Nat.strongRecOn with
 | _ k ih =>
 intro a0_0 a0_1 a0_2 a0_3 a0_4 a0_5 A0_6 c0_6 l0_6 A1 c1 l1 r1 r2 r3 w hr0_6 hc0_6 hr1 hc1 h
 cases k with
 | zero => exact absurd h (by simp [spec_l03Eval.f])
 | succ k =>
 simp only [spec_l03Eval.f] at h
 have hu55 := Try.underlying55
 have hu25 := Try.underlying25
 have HR0_6 := Aside0.mk hr0_6
 have HC0_6 := Aside0.mk hc0_6
 clear hr0_6 hc0_6
 have HR1 := Aside0.mk hr1
 have HC1 := Aside0.mk hc1
 clear hr1 hc1
 have HB := Aside0.mk (Below.refl w.heap.size w)
 have H : (if a0_0 = 0 then (if a0_1 ≥ (l1.length : Int) then (some (0, 0, (⟨#[]⟩ : ByteArray))) else (if 0 ≤ a0_1 then (if a0_1 < (l1.length : Int) then (some ((rd_T25 l1 a0_1).f0, (rd_T25 l1 a0_1).f1, (rd_T25 l1 a0_1).f2)) else (none)) else (none))) else (if a0_0 = 1 then (some (a0_2, a0_3, a0_4)) else (if a0_0 = 2 then (if 0 < (l0_6.length : Int) then ((spec_l03Eval.f k ((rd_T55 l0_6 0).f0) ((rd_T55 l0_6 0).f1) ((rd_T55 l0_6 0).f2.f0) ((rd_T55 l0_6 0).f2.f1) ((rd_T55 l0_6 0).f2.f2) ((rd_T55 l0_6 0).f3) ((rd_T55 l0_6 0).f4) l1).bind fun bt219 => (if 1 < (l0_6.length : Int) then ((spec_l03Eval.f k ((rd_T55 l0_6 1).f0) ((rd_T55 l0_6 1).f1) ((rd_T55 l0_6 1).f2.f0) ((rd_T55 l0_6 1).f2.f1) ((rd_T55 l0_6 1).f2.f2) ((rd_T55 l0_6 1).f3) ((rd_T55 l0_6 1).f4) l1).bind fun bt223 => ((spec_Reckon.f k a0_5 bt219.1 bt219.2.1 bt219.2.2 bt223.1 bt223.2.1 bt223.2.2).bind fun bt226 => (some (bt226.1, bt226.2.1, bt226.2.2)))) else (none))) else (none)) else (if a0_0 = 3 then (if 0 < (l0_6.length : Int) then ((spec_l03Eval.f k ((rd_T55 l0_6 0).f0) ((rd_T55 l0_6 0).f1) ((rd_T55 l0_6 0).f2.f0) ((rd_T55 l0_6 0).f2.f1) ((rd_T55 l0_6 0).f2.f2) ((rd_T55 l0_6 0).f3) ((rd_T55 l0_6 0).f4) l1).bind fun bt230 => ((spec_Not.f bt230.1 bt230.2.1 bt230.2.2).bind fun bt233 => (some (bt233.1, bt233.2.1, bt233.2.2)))) else (none)) else (if 0 < (l0_6.length : Int) then ((spec_l03Eval.f k ((rd_T55 l0_6 0).f0) ((rd_T55 l0_6 0).f1) ((rd_T55 l0_6 0).f2.f0) ((rd_T55 l0_6 0).f2.f1) ((rd_T55 l0_6 0).f2.f2) ((rd_T55 l0_6 0).f3) ((rd_T55 l0_6 0).f4) l1).bind fun bt237 => ((spec_IsNull.f bt237.1 bt237.2.1 bt237.2.2).bind fun bt240 => (some (bt240.1, bt240.2.1, bt240.2.2)))) else (none)))))) = some (r1, r2, r3) := h
 clear h
 by_cases c3 : a0_0 = 0
 ·rw [if_pos c3] at H
  have c3b0 : (a0_0 == 0) = true := beq_iff_eq.mpr c3
  have c3b1 : (a0_0 != 0) = false := bne_eq_false_iff_eq.mpr c3
  clear c3
  by_cases c4 : a0_1 ≥ (l1.length : Int)
  ·rw [if_pos c4] at H
   have c4b0 : decide ((l1.length : Int) ≤ a0_1) = true := decide_eq_true c4
   clear c4
   simp only [Option.some.injEq, Prod.mk.injEq] at H
   obtain ⟨rfl, rfl, rfl⟩ := H
   go_enter Try.func71, Try.ntmps71
   go_wp2_with (first | ((with_reducible refine gate_dst (N := 2) rfl ?_); refine bx_ 2 #[.int .i64 a0_0, .int .i64 a0_1, .int .i64 a0_2, .int .i64 a0_3, .string a0_4, .string a0_5, .slice A0_6 l0_6.length c0_6] 55 ?_; intro gb215 hg w5 hbox hb; have BK215 := Aside0.mk (hbox); have GW215 := gw_ hg; have GE215 := gw_ hg; replace HB := bs_ hb; clear hb hbox hg) | ((with_reducible refine gate_dst (N := 4) rfl ?_); refine bx_ 4 #[.int .i64 0, .int .i64 0, .string (⟨#[]⟩ : ByteArray)] 25 ?_; intro gb216 hg w6 hbox hb; have BK216 := Aside0.mk (hbox); have GW216 := gw_ hg; have GE216 := gw_ hg; have NB215_216 := nl_ hg BK215; have NB216_215 := ng_ hg BK215; replace BK215 := bkb_ BK215 hb; replace HB := bs_ hb; clear hb hbox hg; have hnb7 := NB215_216.out; have hnc7 := NB216_215.out; obtain ⟨hcz8_0, hcz8_1, hcz8_2, hcz8_3, hcz8_4, hcz8_5, hcz8_6, hfz8_0, hfz8_1, hfz8_2, hfz8_3, hfz8_4, hfz8_5, hfz8_6⟩ := b7_ BK215; obtain ⟨hcz9_0, hcz9_1, hcz9_2, hfz9_0, hfz9_1, hfz9_2⟩ := b3_ BK216))
   refine bodyPost_ret (results_cell_row rfl _ _ gb216 25 #[.int .i64 0, .int .i64 0, .string (⟨#[]⟩ : ByteArray)] (0, 0) _ rfl (bp3_ (bkx_ BK216.out)) Try.underlying25 rfl (by kernel_rfl)) rfl ?_
   exact ⟨er_, bb_⟩
  ·rw [if_neg c4] at H
   have c4b0 : decide ((l1.length : Int) ≤ a0_1) = false := decide_eq_false c4
   clear c4
   by_cases c10 : 0 ≤ a0_1
   ·rw [if_pos c10] at H
    have c10b0 : decide (0 ≤ a0_1) = true := decide_eq_true c10
    clear c10
    by_cases c11 : a0_1 < (l1.length : Int)
    ·rw [if_pos c11] at H
     have c11b0 : decide (a0_1 < (l1.length : Int)) = true := decide_eq_true c11
     clear c11
     simp only [Option.some.injEq, Prod.mk.injEq] at H
     obtain ⟨rfl, rfl, rfl⟩ := H
     go_enter Try.func71, Try.ntmps71
     go_wp2_with (first | ((with_reducible refine gate_dst (N := 2) rfl ?_); refine bx_ 2 #[.int .i64 a0_0, .int .i64 a0_1, .int .i64 a0_2, .int .i64 a0_3, .string a0_4, .string a0_5, .slice A0_6 l0_6.length c0_6] 55 ?_; intro gb215 hg w12 hbox hb; have BK215 := Aside0.mk (hbox); have GW215 := gw_ hg; have GE215 := gw_ hg; replace HB := bs_ hb; clear hb hbox hg) | ((with_reducible refine gate_dst (N := 4) rfl ?_); refine bx_ 4 #[.int .i64 0, .int .i64 0, .string (⟨#[]⟩ : ByteArray)] 25 ?_; intro gb216 hg w13 hbox hb; have BK216 := Aside0.mk (hbox); have GW216 := gw_ hg; have GE216 := gw_ hg; have NB215_216 := nl_ hg BK215; have NB216_215 := ng_ hg BK215; replace BK215 := bkb_ BK215 hb; replace HB := bs_ hb; clear hb hbox hg; have hnb14 := NB215_216.out; have hnc14 := NB216_215.out; obtain ⟨hcz15_0, hcz15_1, hcz15_2, hcz15_3, hcz15_4, hcz15_5, hcz15_6, hfz15_0, hfz15_1, hfz15_2, hfz15_3, hfz15_4, hfz15_5, hfz15_6⟩ := b7_ BK215; have p217 : 0 ≤ (a0_1 : Int) := of_decide_eq_true (by first | (with_reducible assumption) | assumption); have q217 : a0_1 < (l1.length : Int) := of_decide_eq_true (by first | (with_reducible assumption) | assumption); obtain ⟨ad217, e217, hx217_0, hx217_1, hx217_2⟩ := at_T25 HR1.out a0_1 p217 q217; cases e217; replace hx217_0 := hb_ HB hx217_0; replace hx217_1 := hb_ HB hx217_1; replace hx217_2 := hb_ HB hx217_2; replace p217 := eq_true p217; replace q217 := eq_true q217; obtain ⟨hcz16_0, hcz16_1, hcz16_2, hfz16_0, hfz16_1, hfz16_2⟩ := b3_ BK216))
     refine bodyPost_ret (results_cell_row rfl _ _ gb216 25 #[.int .i64 ((rd_T25 l1 a0_1).f0), .int .i64 ((rd_T25 l1 a0_1).f1), .string ((rd_T25 l1 a0_1).f2)] (0, 0) _ rfl (bp3_ (bkx_ BK216.out)) Try.underlying25 rfl (by kernel_rfl)) rfl ?_
     exact ⟨er_, bb_⟩
    ·rw [if_neg c11] at H
     exact absurd H (by simp)
   ·rw [if_neg c10] at H
    exact absurd H (by simp)
 ·rw [if_neg c3] at H
  have c3b0 : (a0_0 == 0) = false := beq_eq_false_iff_ne.mpr c3
  have c3b1 : (a0_0 != 0) = true := bne_iff_ne.mpr c3
  by_cases c17 : a0_0 = 1
  ·rw [if_pos c17] at H
   have c17b0 : (a0_0 == 1) = true := beq_iff_eq.mpr c17
   have c17b1 : (a0_0 != 1) = false := bne_eq_false_iff_eq.mpr c17
   clear c17
   simp only [Option.some.injEq, Prod.mk.injEq] at H
   obtain ⟨rfl, rfl, rfl⟩ := H
   go_enter Try.func71, Try.ntmps71
   go_wp2_with (first | ((with_reducible refine gate_dst (N := 2) rfl ?_); refine bx_ 2 #[.int .i64 a0_0, .int .i64 a0_1, .int .i64 a0_2, .int .i64 a0_3, .string a0_4, .string a0_5, .slice A0_6 l0_6.length c0_6] 55 ?_; intro gb215 hg w18 hbox hb; have BK215 := Aside0.mk (hbox); have GW215 := gw_ hg; have GE215 := gw_ hg; replace HB := bs_ hb; clear hb hbox hg) | ((with_reducible refine gate_dst (N := 4) rfl ?_); refine bx_ 4 #[.int .i64 0, .int .i64 0, .string (⟨#[]⟩ : ByteArray)] 25 ?_; intro gb216 hg w19 hbox hb; have BK216 := Aside0.mk (hbox); have GW216 := gw_ hg; have GE216 := gw_ hg; have NB215_216 := nl_ hg BK215; have NB216_215 := ng_ hg BK215; replace BK215 := bkb_ BK215 hb; replace HB := bs_ hb; clear hb hbox hg; have hnb20 := NB215_216.out; have hnc20 := NB216_215.out; obtain ⟨hcz21_0, hcz21_1, hcz21_2, hcz21_3, hcz21_4, hcz21_5, hcz21_6, hfz21_0, hfz21_1, hfz21_2, hfz21_3, hfz21_4, hfz21_5, hfz21_6⟩ := b7_ BK215; obtain ⟨hcz22_0, hcz22_1, hcz22_2, hfz22_0, hfz22_1, hfz22_2⟩ := b3_ BK216))
   refine bodyPost_ret (results_cell_row rfl _ _ gb216 25 #[.int .i64 a0_2, .int .i64 a0_3, .string a0_4] (0, 0) _ rfl (bp3_ (bkx_ BK216.out)) Try.underlying25 rfl (by kernel_rfl)) rfl ?_
   exact ⟨er_, bb_⟩
  ·rw [if_neg c17] at H
   have c17b0 : (a0_0 == 1) = false := beq_eq_false_iff_ne.mpr c17
   have c17b1 : (a0_0 != 1) = true := bne_iff_ne.mpr c17
   by_cases c23 : a0_0 = 2
   ·rw [if_pos c23] at H
    have c23b0 : (a0_0 == 2) = true := beq_iff_eq.mpr c23
    have c23b1 : (a0_0 != 2) = false := bne_eq_false_iff_eq.mpr c23
    clear c23
    by_cases c24 : 0 < (l0_6.length : Int)
    ·rw [if_pos c24] at H
     have c24b0 : decide (0 < (l0_6.length : Int)) = true := decide_eq_true c24
     have c24b1 : decide (0 < l0_6.length) = true := decide_eq_true (by omega)
     clear c24
     replace H := Option.bind_eq_some_iff.mp H
     obtain ⟨⟨t219, t220, t221⟩, A250, H⟩ := H
     replace H : (if 1 < (l0_6.length : Int) then ((spec_l03Eval.f k ((rd_T55 l0_6 1).f0) ((rd_T55 l0_6 1).f1) ((rd_T55 l0_6 1).f2.f0) ((rd_T55 l0_6 1).f2.f1) ((rd_T55 l0_6 1).f2.f2) ((rd_T55 l0_6 1).f3) ((rd_T55 l0_6 1).f4) l1).bind fun bt223 => ((spec_Reckon.f k a0_5 t219 t220 t221 bt223.1 bt223.2.1 bt223.2.2).bind fun bt226 => (some (bt226.1, bt226.2.1, bt226.2.2)))) else (none)) = some (r1, r2, r3) := H
     have A25 := Aside0.mk A250
     clear A250
     by_cases c26 : 1 < (l0_6.length : Int)
     ·rw [if_pos c26] at H
      have c26b0 : decide (1 < (l0_6.length : Int)) = true := decide_eq_true c26
      have c26b1 : decide (1 < l0_6.length) = true := decide_eq_true (by omega)
      clear c26
      replace H := Option.bind_eq_some_iff.mp H
      obtain ⟨⟨t223, t224, t225⟩, A270, H⟩ := H
      replace H : ((spec_Reckon.f k a0_5 t219 t220 t221 t223 t224 t225).bind fun bt226 => (some (bt226.1, bt226.2.1, bt226.2.2))) = some (r1, r2, r3) := H
      have A27 := Aside0.mk A270
      clear A270
      replace H := Option.bind_eq_some_iff.mp H
      obtain ⟨⟨t226, t227, t228⟩, A280, H⟩ := H
      replace H : (some (t226, t227, t228)) = some (r1, r2, r3) := H
      have A28 := Aside0.mk A280
      clear A280
      simp only [Option.some.injEq, Prod.mk.injEq] at H
      obtain ⟨rfl, rfl, rfl⟩ := H
      go_enter Try.func71, Try.ntmps71
      try go_wp2_with (first | ((with_reducible refine gate_dst (N := 2) rfl ?_); refine bx_ 2 #[.int .i64 a0_0, .int .i64 a0_1, .int .i64 a0_2, .int .i64 a0_3, .string a0_4, .string a0_5, .slice A0_6 l0_6.length c0_6] 55 ?_; intro gb215 hg w29 hbox hb; have BK215 := Aside0.mk (hbox); have GW215 := gw_ hg; have GE215 := gw_ hg; replace HB := bs_ hb; clear hb hbox hg) | ((with_reducible refine gate_dst (N := 4) rfl ?_); refine bx_ 4 #[.int .i64 0, .int .i64 0, .string (⟨#[]⟩ : ByteArray)] 25 ?_; intro gb216 hg w30 hbox hb; have BK216 := Aside0.mk (hbox); have GW216 := gw_ hg; have GE216 := gw_ hg; have NB215_216 := nl_ hg BK215; have NB216_215 := ng_ hg BK215; replace BK215 := bkb_ BK215 hb; replace HB := bs_ hb; clear hb hbox hg; have hnb31 := NB215_216.out; have hnc31 := NB216_215.out; obtain ⟨hcz32_0, hcz32_1, hcz32_2, hcz32_3, hcz32_4, hcz32_5, hcz32_6, hfz32_0, hfz32_1, hfz32_2, hfz32_3, hfz32_4, hfz32_5, hfz32_6⟩ := b7_ BK215))
      replace BK215 := Aside0.mk (blk_drew BK215.out)
      replace BK216 := Aside0.mk (blk_drew BK216.out)
      replace HB := Aside0.mk (below_drew1 HB.out)
      have p218 : 0 ≤ (0 : Int) := (by omega)
      have q218 : 0 < (l0_6.length : Int) := of_decide_eq_true (by first | (with_reducible assumption) | assumption)
      obtain ⟨ad218, A218_6, c218_6, e218, hx218_0, hx218_1, hx218_2, hx218_3, hx218_4, hx218_5, hx218_6, hl218_6, hi218_6⟩ := at_T55 HR0_6.out 0 p218 q218
      have hw218_6 := hx218_6
      (try rw [show ((0 : Int)).toNat = 0 from rfl] at hw218_6)
      (try rw [show 0 * 7 = 0 from rfl] at hw218_6)
      (try rw [Addr.add_zero'] at hw218_6)
      have hw218_5 := hx218_5
      (try rw [show ((0 : Int)).toNat = 0 from rfl] at hw218_5)
      (try rw [show 0 * 7 = 0 from rfl] at hw218_5)
      (try rw [Addr.add_zero'] at hw218_5)
      have hw218_4 := hx218_4
      (try rw [show ((0 : Int)).toNat = 0 from rfl] at hw218_4)
      (try rw [show 0 * 7 = 0 from rfl] at hw218_4)
      (try rw [Addr.add_zero'] at hw218_4)
      have hw218_3 := hx218_3
      (try rw [show ((0 : Int)).toNat = 0 from rfl] at hw218_3)
      (try rw [show 0 * 7 = 0 from rfl] at hw218_3)
      (try rw [Addr.add_zero'] at hw218_3)
      have hw218_2 := hx218_2
      (try rw [show ((0 : Int)).toNat = 0 from rfl] at hw218_2)
      (try rw [show 0 * 7 = 0 from rfl] at hw218_2)
      (try rw [Addr.add_zero'] at hw218_2)
      have hw218_1 := hx218_1
      (try rw [show ((0 : Int)).toNat = 0 from rfl] at hw218_1)
      (try rw [show 0 * 7 = 0 from rfl] at hw218_1)
      (try rw [Addr.add_zero'] at hw218_1)
      have hw218_0 := hx218_0
      (try rw [show ((0 : Int)).toNat = 0 from rfl] at hw218_0)
      (try rw [show 0 * 7 = 0 from rfl] at hw218_0)
      (try rw [Addr.add_zero'] at hw218_0)
      cases e218
      have qi218 : (0 < l0_6.length) = True := eq_true (by omega)
      (try rw [show ((0 : Int)).toNat = 0 from rfl] at hx218_0)
      (try rw [show 0 * 7 = 0 from rfl] at hx218_0)
      (try rw [Addr.add_zero'] at hx218_0)
      (try rw [show ((0 : Int)).toNat = 0 from rfl] at hx218_1)
      (try rw [show 0 * 7 = 0 from rfl] at hx218_1)
      (try rw [Addr.add_zero'] at hx218_1)
      (try rw [show ((0 : Int)).toNat = 0 from rfl] at hx218_2)
      (try rw [show 0 * 7 = 0 from rfl] at hx218_2)
      (try rw [Addr.add_zero'] at hx218_2)
      (try rw [show ((0 : Int)).toNat = 0 from rfl] at hx218_3)
      (try rw [show 0 * 7 = 0 from rfl] at hx218_3)
      (try rw [Addr.add_zero'] at hx218_3)
      (try rw [show ((0 : Int)).toNat = 0 from rfl] at hx218_4)
      (try rw [show 0 * 7 = 0 from rfl] at hx218_4)
      (try rw [Addr.add_zero'] at hx218_4)
      (try rw [show ((0 : Int)).toNat = 0 from rfl] at hx218_5)
      (try rw [show 0 * 7 = 0 from rfl] at hx218_5)
      (try rw [Addr.add_zero'] at hx218_5)
      (try rw [show ((0 : Int)).toNat = 0 from rfl] at hx218_6)
      (try rw [show 0 * 7 = 0 from rfl] at hx218_6)
      (try rw [Addr.add_zero'] at hx218_6)
      replace hx218_0 := hb_ HB hx218_0
      replace hx218_1 := hb_ HB hx218_1
      replace hx218_2 := hb_ HB hx218_2
      replace hx218_3 := hb_ HB hx218_3
      replace hx218_4 := hb_ HB hx218_4
      replace hx218_5 := hb_ HB hx218_5
      replace hx218_6 := hb_ HB hx218_6
      have HR218_6 := Aside0.mk hi218_6
      have HC218_6 := Aside0.mk hl218_6
      clear hi218_6 hl218_6
      replace p218 := eq_true p218
      replace q218 := eq_true q218
      have p222 : 0 ≤ (1 : Int) := (by omega)
      have q222 : 1 < (l0_6.length : Int) := of_decide_eq_true (by first | (with_reducible assumption) | assumption)
      obtain ⟨ad222, A222_6, c222_6, e222, hx222_0, hx222_1, hx222_2, hx222_3, hx222_4, hx222_5, hx222_6, hl222_6, hi222_6⟩ := at_T55 HR0_6.out 1 p222 q222
      have hw222_6 := hx222_6
      (try rw [show ((1 : Int)).toNat = 1 from rfl] at hw222_6)
      (try rw [show 1 * 7 = 7 from rfl] at hw222_6)
      (try simp only [Nat.reduceMul, Nat.reduceEqDiff, Go.Addr.add, ↓reduceIte] at hw222_6)
      have hw222_5 := hx222_5
      (try rw [show ((1 : Int)).toNat = 1 from rfl] at hw222_5)
      (try rw [show 1 * 7 = 7 from rfl] at hw222_5)
      (try simp only [Nat.reduceMul, Nat.reduceEqDiff, Go.Addr.add, ↓reduceIte] at hw222_5)
      have hw222_4 := hx222_4
      (try rw [show ((1 : Int)).toNat = 1 from rfl] at hw222_4)
      (try rw [show 1 * 7 = 7 from rfl] at hw222_4)
      (try simp only [Nat.reduceMul, Nat.reduceEqDiff, Go.Addr.add, ↓reduceIte] at hw222_4)
      have hw222_3 := hx222_3
      (try rw [show ((1 : Int)).toNat = 1 from rfl] at hw222_3)
      (try rw [show 1 * 7 = 7 from rfl] at hw222_3)
      (try simp only [Nat.reduceMul, Nat.reduceEqDiff, Go.Addr.add, ↓reduceIte] at hw222_3)
      have hw222_2 := hx222_2
      (try rw [show ((1 : Int)).toNat = 1 from rfl] at hw222_2)
      (try rw [show 1 * 7 = 7 from rfl] at hw222_2)
      (try simp only [Nat.reduceMul, Nat.reduceEqDiff, Go.Addr.add, ↓reduceIte] at hw222_2)
      have hw222_1 := hx222_1
      (try rw [show ((1 : Int)).toNat = 1 from rfl] at hw222_1)
      (try rw [show 1 * 7 = 7 from rfl] at hw222_1)
      (try simp only [Nat.reduceMul, Nat.reduceEqDiff, Go.Addr.add, ↓reduceIte] at hw222_1)
      have hw222_0 := hx222_0
      (try rw [show ((1 : Int)).toNat = 1 from rfl] at hw222_0)
      (try rw [show 1 * 7 = 7 from rfl] at hw222_0)
      (try simp only [Nat.reduceMul, Nat.reduceEqDiff, Go.Addr.add, ↓reduceIte] at hw222_0)
      obtain rfl : ad218 = ad222 := (by injection e222)
      (try simp only [show (1 : Int).toNat = 1 from rfl, Nat.reduceMul, Nat.reduceEqDiff, Go.Addr.add, ↓reduceIte] at hx222_0)
      (try simp only [show (1 : Int).toNat = 1 from rfl, Nat.reduceMul, Nat.reduceEqDiff, Go.Addr.add, ↓reduceIte] at hx222_1)
      (try simp only [show (1 : Int).toNat = 1 from rfl, Nat.reduceMul, Nat.reduceEqDiff, Go.Addr.add, ↓reduceIte] at hx222_2)
      (try simp only [show (1 : Int).toNat = 1 from rfl, Nat.reduceMul, Nat.reduceEqDiff, Go.Addr.add, ↓reduceIte] at hx222_3)
      (try simp only [show (1 : Int).toNat = 1 from rfl, Nat.reduceMul, Nat.reduceEqDiff, Go.Addr.add, ↓reduceIte] at hx222_4)
      (try simp only [show (1 : Int).toNat = 1 from rfl, Nat.reduceMul, Nat.reduceEqDiff, Go.Addr.add, ↓reduceIte] at hx222_5)
      (try simp only [show (1 : Int).toNat = 1 from rfl, Nat.reduceMul, Nat.reduceEqDiff, Go.Addr.add, ↓reduceIte] at hx222_6)
      have qi222 : (1 < l0_6.length) = True := eq_true (by omega)
      (try rw [show ((1 : Int)).toNat = 1 from rfl] at hx222_0)
      (try rw [show 1 * 7 = 7 from rfl] at hx222_0)
      (try rw [show ((1 : Int)).toNat = 1 from rfl] at hx222_1)
      (try rw [show 1 * 7 = 7 from rfl] at hx222_1)
      (try rw [show ((1 : Int)).toNat = 1 from rfl] at hx222_2)
      (try rw [show 1 * 7 = 7 from rfl] at hx222_2)
      (try rw [show ((1 : Int)).toNat = 1 from rfl] at hx222_3)
      (try rw [show 1 * 7 = 7 from rfl] at hx222_3)
      (try rw [show ((1 : Int)).toNat = 1 from rfl] at hx222_4)
      (try rw [show 1 * 7 = 7 from rfl] at hx222_4)
      (try rw [show ((1 : Int)).toNat = 1 from rfl] at hx222_5)
      (try rw [show 1 * 7 = 7 from rfl] at hx222_5)
      (try rw [show ((1 : Int)).toNat = 1 from rfl] at hx222_6)
      (try rw [show 1 * 7 = 7 from rfl] at hx222_6)
      replace hx222_0 := hb_ HB hx222_0
      replace hx222_1 := hb_ HB hx222_1
      replace hx222_2 := hb_ HB hx222_2
      replace hx222_3 := hb_ HB hx222_3
      replace hx222_4 := hb_ HB hx222_4
      replace hx222_5 := hb_ HB hx222_5
      replace hx222_6 := hb_ HB hx222_6
      have HR222_6 := Aside0.mk hi222_6
      have HC222_6 := Aside0.mk hl222_6
      clear hi222_6 hl222_6
      replace p222 := eq_true p222
      replace q222 := eq_true q222
      refine start_ (n := 16) (S := fun w' => w'.cell? ⟨gb215, 0, none⟩ = some (.int .i64 a0_0) ∧ w'.cell? ⟨gb215, 1, none⟩ = some (.int .i64 a0_1) ∧ w'.cell? ⟨gb215, 2, none⟩ = some (.int .i64 a0_2) ∧ w'.cell? ⟨gb215, 3, none⟩ = some (.int .i64 a0_3) ∧ w'.cell? ⟨gb215, 4, none⟩ = some (.string a0_4) ∧ w'.cell? ⟨gb215, 5, none⟩ = some (.string a0_5) ∧ w'.cell? ⟨gb215, 6, none⟩ = some (.slice (some ad218) l0_6.length c0_6) ∧ w'.cell? ad218 = some (.int .i64 ((rd_T55 l0_6 0).f0)) ∧ w'.cell? ⟨ad218.block, ad218.off + 1, none⟩ = some (.int .i64 ((rd_T55 l0_6 0).f1)) ∧ w'.cell? ⟨ad218.block, ad218.off + 2, none⟩ = some (.int .i64 ((rd_T55 l0_6 0).f2.f0)) ∧ w'.cell? ⟨ad218.block, ad218.off + 3, none⟩ = some (.int .i64 ((rd_T55 l0_6 0).f2.f1)) ∧ w'.cell? ⟨ad218.block, ad218.off + 4, none⟩ = some (.string ((rd_T55 l0_6 0).f2.f2)) ∧ w'.cell? ⟨ad218.block, ad218.off + 5, none⟩ = some (.string ((rd_T55 l0_6 0).f3)) ∧ w'.cell? ⟨ad218.block, ad218.off + 6, none⟩ = some (.slice A218_6 ((rd_T55 l0_6 0).f4).length c218_6) ∧ w'.cell? ⟨ad218.block, ad218.off + 7, none⟩ = some (.int .i64 ((rd_T55 l0_6 1).f0)) ∧ w'.cell? ⟨ad218.block, ad218.off + 7 + 1, none⟩ = some (.int .i64 ((rd_T55 l0_6 1).f1)) ∧ w'.cell? ⟨ad218.block, ad218.off + 7 + 2, none⟩ = some (.int .i64 ((rd_T55 l0_6 1).f2.f0)) ∧ w'.cell? ⟨ad218.block, ad218.off + 7 + 3, none⟩ = some (.int .i64 ((rd_T55 l0_6 1).f2.f1)) ∧ w'.cell? ⟨ad218.block, ad218.off + 7 + 4, none⟩ = some (.string ((rd_T55 l0_6 1).f2.f2)) ∧ w'.cell? ⟨ad218.block, ad218.off + 7 + 5, none⟩ = some (.string ((rd_T55 l0_6 1).f3)) ∧ w'.cell? ⟨ad218.block, ad218.off + 7 + 6, none⟩ = some (.slice A222_6 ((rd_T55 l0_6 1).f4).length c222_6)) (ds := []) (tf 0 16) (by kernel_rfl) rfl rfl ⟨bc_ BK215 0, bc_ BK215 1, bc_ BK215 2, bc_ BK215 3, bc_ BK215 4, bc_ BK215 5, bc_ BK215 6, (hb_ HB hw218_0), (hb_ HB hw218_1), (hb_ HB hw218_2), (hb_ HB hw218_3), (hb_ HB hw218_4), (hb_ HB hw218_5), (hb_ HB hw218_6), (hb_ HB hw222_0), (hb_ HB hw222_1), (hb_ HB hw222_2), (hb_ HB hw222_3), (hb_ HB hw222_4), (hb_ HB hw222_5), (hb_ HB hw222_6)⟩ (fun hHeld => ?_); refine with_tabW spec_l03Eval.tab9 spec_l03Eval.bits9 (fun HT_ HW_ => ?_)
      generalize w30.drew = w33 at BK215 BK216 HB HR218_6 HR222_6 hx218_0 hx218_1 hx218_2 hx218_3 hx218_4 hx218_5 hx218_6 hx222_0 hx222_1 hx222_2 hx222_3 hx222_4 hx222_5 hx222_6 hHeld ⊢
      refine pl_ ?_
      refine plx_ 2 #[true, false, true, false, false, false, false, false, false, false, false, false, false, false, false, false] ?_
      refine plx_ 6 #[true, false, true, false, false, false, true, false, false, false, false, false, false, false, false, false] ?_
      refine plx_ 8 #[true, false, true, false, false, false, true, false, true, false, false, false, false, false, false, false] ?_
      refine plx_ 12 #[true, false, true, false, false, false, true, false, true, false, false, false, true, false, false, false] ?_
      refine tlx_ 1 #[true, true, true, false, false, false, true, false, true, false, false, false, true, false, false, false] ?_
      refine tlx_ 3 #[true, true, true, true, false, false, true, false, true, false, false, false, true, false, false, false] ?_
      refine plx_ 4 #[true, true, true, true, true, false, true, false, true, false, false, false, true, false, false, false] ?_
      refine tlx_ 5 #[true, true, true, true, true, true, true, false, true, false, false, false, true, false, false, false] ?_
      refine tlx_ 9 #[true, true, true, true, true, true, true, false, true, true, false, false, true, false, false, false] ?_
      refine plx_ 10 #[true, true, true, true, true, true, true, false, true, true, true, false, true, false, false, false] ?_
      refine tlx_ 11 #[true, true, true, true, true, true, true, false, true, true, true, true, true, false, false, false] ?_
      refine one_ (i := 7) (N := some 33) (tf 13 3) rfl rfl (one_of HT_.out (by kernel_rfl)) (by decide) (fun K hK => ?_)
      refine gs_ Try.func71 #[.agg #[.int .i64 ((rd_T55 l0_6 0).f0), .int .i64 ((rd_T55 l0_6 0).f1), .int .i64 ((rd_T55 l0_6 0).f2.f0), .int .i64 ((rd_T55 l0_6 0).f2.f1), .string ((rd_T55 l0_6 0).f2.f2), .string ((rd_T55 l0_6 0).f3), .slice A218_6 ((rd_T55 l0_6 0).f4).length c218_6], .slice A1 l1.length c1] ?_
      with_reducible refine (ih k (by omega) ((rd_T55 l0_6 0).f0) ((rd_T55 l0_6 0).f1) ((rd_T55 l0_6 0).f2.f0) ((rd_T55 l0_6 0).f2.f1) ((rd_T55 l0_6 0).f2.f2) ((rd_T55 l0_6 0).f3) _ _ ((rd_T55 l0_6 0).f4) _ _ l1 t219 t220 t221 _ ?side1 ?side2 ?side3 ?side4 A25.out).mono ?_
      (case side1 => exact ck_ (Kd.C_below HR218_6.out HB.out))
      (case side2 => exact HC218_6.out)
      (case side3 => exact ck_ (Kd.C_below HR1.out HB.out))
      (case side4 => exact HC1.out)
      rintro e w34 ⟨rfl, hb⟩
      refine ⟨_, rfl, ?_⟩
      replace BK215 := bkb_ BK215 hb
      replace BK216 := bkb_ BK216 hb
      replace HB := bs_ hb
      (try clear hb)
      (try clear hb2)
      (try clear hk)
      (try clear hi)
      refine hK.out _ _ ⟨bc_ BK215 0, bc_ BK215 1, bc_ BK215 2, bc_ BK215 3, bc_ BK215 4, bc_ BK215 5, bc_ BK215 6, (hb_ HB hw218_0), (hb_ HB hw218_1), (hb_ HB hw218_2), (hb_ HB hw218_3), (hb_ HB hw218_4), (hb_ HB hw218_5), (hb_ HB hw218_6), (hb_ HB hw222_0), (hb_ HB hw222_1), (hb_ HB hw222_2), (hb_ HB hw222_3), (hb_ HB hw222_4), (hb_ HB hw222_5), (hb_ HB hw222_6)⟩ (fun hHeld => ?_)
      clear hK K
      refine nm_ ?_
      refine one_ (i := 13) (N := some 39) (tf 14 2) rfl rfl (one_of HT_.out (by kernel_rfl)) (by decide) (fun K hK => ?_)
      refine gs_ Try.func71 #[.agg #[.int .i64 ((rd_T55 l0_6 1).f0), .int .i64 ((rd_T55 l0_6 1).f1), .int .i64 ((rd_T55 l0_6 1).f2.f0), .int .i64 ((rd_T55 l0_6 1).f2.f1), .string ((rd_T55 l0_6 1).f2.f2), .string ((rd_T55 l0_6 1).f3), .slice A222_6 ((rd_T55 l0_6 1).f4).length c222_6], .slice A1 l1.length c1] ?_
      with_reducible refine (ih k (by omega) ((rd_T55 l0_6 1).f0) ((rd_T55 l0_6 1).f1) ((rd_T55 l0_6 1).f2.f0) ((rd_T55 l0_6 1).f2.f1) ((rd_T55 l0_6 1).f2.f2) ((rd_T55 l0_6 1).f3) _ _ ((rd_T55 l0_6 1).f4) _ _ l1 t223 t224 t225 _ ?side1 ?side2 ?side3 ?side4 A27.out).mono ?_
      (case side1 => exact ck_ (Kd.C_below HR222_6.out HB.out))
      (case side2 => exact HC222_6.out)
      (case side3 => exact ck_ (Kd.C_below HR1.out HB.out))
      (case side4 => exact HC1.out)
      rintro e w35 ⟨rfl, hb⟩
      refine ⟨_, rfl, ?_⟩
      replace BK215 := bkb_ BK215 hb
      replace BK216 := bkb_ BK216 hb
      replace HB := bs_ hb
      (try clear hb)
      (try clear hb2)
      (try clear hk)
      (try clear hi)
      refine hK.out _ _ ⟨bc_ BK215 0, bc_ BK215 1, bc_ BK215 2, bc_ BK215 3, bc_ BK215 4, bc_ BK215 5, bc_ BK215 6, (hb_ HB hw218_0), (hb_ HB hw218_1), (hb_ HB hw218_2), (hb_ HB hw218_3), (hb_ HB hw218_4), (hb_ HB hw218_5), (hb_ HB hw218_6), (hb_ HB hw222_0), (hb_ HB hw222_1), (hb_ HB hw222_2), (hb_ HB hw222_3), (hb_ HB hw222_4), (hb_ HB hw222_5), (hb_ HB hw222_6)⟩ (fun hHeld => ?_)
      clear hK K
      refine nm_ ?_
      refine one_ (i := 14) (N := some 40) (tf 15 1) rfl rfl (one_of HT_.out (by kernel_rfl)) (by decide) (fun K hK => ?_)
      refine gs_ Try.func11 #[.string a0_5, .agg #[.int .i64 t219, .int .i64 t220, .string t221], .agg #[.int .i64 t223, .int .i64 t224, .string t225]] ?_
      with_reducible refine (spec_Reckon.calls k a0_5 t219 t220 t221 t223 t224 t225 t226 t227 t228 _ A28.out).mono ?_
      rintro e w36 ⟨rfl, hb⟩
      refine ⟨_, rfl, ?_⟩
      replace BK215 := bkb_ BK215 hb
      replace BK216 := bkb_ BK216 hb
      replace HB := bs_ hb
      (try clear hb)
      (try clear hb2)
      (try clear hk)
      (try clear hi)
      refine hK.out _ _ ⟨bc_ BK215 0, bc_ BK215 1, bc_ BK215 2, bc_ BK215 3, bc_ BK215 4, bc_ BK215 5, bc_ BK215 6, (hb_ HB hw218_0), (hb_ HB hw218_1), (hb_ HB hw218_2), (hb_ HB hw218_3), (hb_ HB hw218_4), (hb_ HB hw218_5), (hb_ HB hw218_6), (hb_ HB hw222_0), (hb_ HB hw222_1), (hb_ HB hw222_2), (hb_ HB hw222_3), (hb_ HB hw222_4), (hb_ HB hw222_5), (hb_ HB hw222_6)⟩ (fun hHeld => ?_)
      clear hK K
      refine nm_ ?_
      refine one_ (i := 15) (N := none) (tf 16 0) rfl rfl (one_of HT_.out (by kernel_rfl)) (by decide) (fun K hK => ?_)
      have hs37 : w36.cell? ⟨gb216, 0, none⟩ = some (.int .i64 0) := bc_ BK216 0
      have hfs37 := blk_frozen BK216.out 0
      have hns37_0 := NB215_216.out
      have hms37_0 := NB216_215.out
      have hs38 : w36.cell? ⟨gb216, 1, none⟩ = some (.int .i64 0) := bc_ BK216 1
      have hfs38 := blk_frozen BK216.out 1
      have hns38_0 := NB215_216.out
      have hms38_0 := NB216_215.out
      have hs39 : w36.cell? ⟨gb216, 2, none⟩ = some (.string (⟨#[]⟩ : ByteArray)) := bc_ BK216 2
      have hfs39 := blk_frozen BK216.out 2
      have hns39_0 := NB215_216.out
      have hms39_0 := NB216_215.out
      refine skip_ (w1 := ?_) (by rfl) rfl ?_ ?_
      rotate_left
      ·go_simp
       rfl
      refine hK.out _ _ ⟨(cf3_ NB215_216 (hHeld.1)), (cf3_ NB215_216 (hHeld.2.1)), (cf3_ NB215_216 (hHeld.2.2.1)), (cf3_ NB215_216 (hHeld.2.2.2.1)), (cf3_ NB215_216 (hHeld.2.2.2.2.1)), (cf3_ NB215_216 (hHeld.2.2.2.2.2.1)), (cf3_ NB215_216 (hHeld.2.2.2.2.2.2.1)), ((cell_far (p := ⟨gb216, _, none⟩) (by first | exact Nat.ne_of_lt (Nat.lt_of_lt_of_le (by have := World.block_lt_of_cell? _ _ hw218_0; first | rwa [add_block] at this | exact this) GW216.out) | (rw [add_block]; exact Nat.ne_of_lt (Nat.lt_of_lt_of_le (by have := World.block_lt_of_cell? _ _ hw218_0; first | rwa [add_block] at this | exact this) GW216.out)) | (show (Addr.add _ _).block ≠ _; rw [add_block]; exact Nat.ne_of_lt (Nat.lt_of_lt_of_le (by have := World.block_lt_of_cell? _ _ hw218_0; first | rwa [add_block] at this | exact this) GW216.out)) | (dsimp only; exact Nat.ne_of_lt (Nat.lt_of_lt_of_le (by have := World.block_lt_of_cell? _ _ hw218_0; first | rwa [add_block] at this | exact this) GW216.out))) _).trans (((cell_far (p := ⟨gb216, _, none⟩) (by first | exact Nat.ne_of_lt (Nat.lt_of_lt_of_le (by have := World.block_lt_of_cell? _ _ hw218_0; first | rwa [add_block] at this | exact this) GW216.out) | (rw [add_block]; exact Nat.ne_of_lt (Nat.lt_of_lt_of_le (by have := World.block_lt_of_cell? _ _ hw218_0; first | rwa [add_block] at this | exact this) GW216.out)) | (show (Addr.add _ _).block ≠ _; rw [add_block]; exact Nat.ne_of_lt (Nat.lt_of_lt_of_le (by have := World.block_lt_of_cell? _ _ hw218_0; first | rwa [add_block] at this | exact this) GW216.out)) | (dsimp only; exact Nat.ne_of_lt (Nat.lt_of_lt_of_le (by have := World.block_lt_of_cell? _ _ hw218_0; first | rwa [add_block] at this | exact this) GW216.out))) _).trans (((cell_far (p := ⟨gb216, _, none⟩) (by first | exact Nat.ne_of_lt (Nat.lt_of_lt_of_le (by have := World.block_lt_of_cell? _ _ hw218_0; first | rwa [add_block] at this | exact this) GW216.out) | (rw [add_block]; exact Nat.ne_of_lt (Nat.lt_of_lt_of_le (by have := World.block_lt_of_cell? _ _ hw218_0; first | rwa [add_block] at this | exact this) GW216.out)) | (show (Addr.add _ _).block ≠ _; rw [add_block]; exact Nat.ne_of_lt (Nat.lt_of_lt_of_le (by have := World.block_lt_of_cell? _ _ hw218_0; first | rwa [add_block] at this | exact this) GW216.out)) | (dsimp only; exact Nat.ne_of_lt (Nat.lt_of_lt_of_le (by have := World.block_lt_of_cell? _ _ hw218_0; first | rwa [add_block] at this | exact this) GW216.out))) _).trans (hHeld.2.2.2.2.2.2.2.1)))))), ((cell_far (p := ⟨gb216, _, none⟩) (by first | exact Nat.ne_of_lt (Nat.lt_of_lt_of_le (by have := World.block_lt_of_cell? _ _ hw218_1; first | rwa [add_block] at this | exact this) GW216.out) | (rw [add_block]; exact Nat.ne_of_lt (Nat.lt_of_lt_of_le (by have := World.block_lt_of_cell? _ _ hw218_1; first | rwa [add_block] at this | exact this) GW216.out)) | (show (Addr.add _ _).block ≠ _; rw [add_block]; exact Nat.ne_of_lt (Nat.lt_of_lt_of_le (by have := World.block_lt_of_cell? _ _ hw218_1; first | rwa [add_block] at this | exact this) GW216.out)) | (dsimp only; exact Nat.ne_of_lt (Nat.lt_of_lt_of_le (by have := World.block_lt_of_cell? _ _ hw218_1; first | rwa [add_block] at this | exact this) GW216.out))) _).trans (((cell_far (p := ⟨gb216, _, none⟩) (by first | exact Nat.ne_of_lt (Nat.lt_of_lt_of_le (by have := World.block_lt_of_cell? _ _ hw218_1; first | rwa [add_block] at this | exact this) GW216.out) | (rw [add_block]; exact Nat.ne_of_lt (Nat.lt_of_lt_of_le (by have := World.block_lt_of_cell? _ _ hw218_1; first | rwa [add_block] at this | exact this) GW216.out)) | (show (Addr.add _ _).block ≠ _; rw [add_block]; exact Nat.ne_of_lt (Nat.lt_of_lt_of_le (by have := World.block_lt_of_cell? _ _ hw218_1; first | rwa [add_block] at this | exact this) GW216.out)) | (dsimp only; exact Nat.ne_of_lt (Nat.lt_of_lt_of_le (by have := World.block_lt_of_cell? _ _ hw218_1; first | rwa [add_block] at this | exact this) GW216.out))) _).trans (((cell_far (p := ⟨gb216, _, none⟩) (by first | exact Nat.ne_of_lt (Nat.lt_of_lt_of_le (by have := World.block_lt_of_cell? _ _ hw218_1; first | rwa [add_block] at this | exact this) GW216.out) | (rw [add_block]; exact Nat.ne_of_lt (Nat.lt_of_lt_of_le (by have := World.block_lt_of_cell? _ _ hw218_1; first | rwa [add_block] at this | exact this) GW216.out)) | (show (Addr.add _ _).block ≠ _; rw [add_block]; exact Nat.ne_of_lt (Nat.lt_of_lt_of_le (by have := World.block_lt_of_cell? _ _ hw218_1; first | rwa [add_block] at this | exact this) GW216.out)) | (dsimp only; exact Nat.ne_of_lt (Nat.lt_of_lt_of_le (by have := World.block_lt_of_cell? _ _ hw218_1; first | rwa [add_block] at this | exact this) GW216.out))) _).trans (hHeld.2.2.2.2.2.2.2.2.1)))))), ((cell_far (p := ⟨gb216, _, none⟩) (by first | exact Nat.ne_of_lt (Nat.lt_of_lt_of_le (by have := World.block_lt_of_cell? _ _ hw218_2; first | rwa [add_block] at this | exact this) GW216.out) | (rw [add_block]; exact Nat.ne_of_lt (Nat.lt_of_lt_of_le (by have := World.block_lt_of_cell? _ _ hw218_2; first | rwa [add_block] at this | exact this) GW216.out)) | (show (Addr.add _ _).block ≠ _; rw [add_block]; exact Nat.ne_of_lt (Nat.lt_of_lt_of_le (by have := World.block_lt_of_cell? _ _ hw218_2; first | rwa [add_block] at this | exact this) GW216.out)) | (dsimp only; exact Nat.ne_of_lt (Nat.lt_of_lt_of_le (by have := World.block_lt_of_cell? _ _ hw218_2; first | rwa [add_block] at this | exact this) GW216.out))) _).trans (((cell_far (p := ⟨gb216, _, none⟩) (by first | exact Nat.ne_of_lt (Nat.lt_of_lt_of_le (by have := World.block_lt_of_cell? _ _ hw218_2; first | rwa [add_block] at this | exact this) GW216.out) | (rw [add_block]; exact Nat.ne_of_lt (Nat.lt_of_lt_of_le (by have := World.block_lt_of_cell? _ _ hw218_2; first | rwa [add_block] at this | exact this) GW216.out)) | (show (Addr.add _ _).block ≠ _; rw [add_block]; exact Nat.ne_of_lt (Nat.lt_of_lt_of_le (by have := World.block_lt_of_cell? _ _ hw218_2; first | rwa [add_block] at this | exact this) GW216.out)) | (dsimp only; exact Nat.ne_of_lt (Nat.lt_of_lt_of_le (by have := World.block_lt_of_cell? _ _ hw218_2; first | rwa [add_block] at this | exact this) GW216.out))) _).trans (((cell_far (p := ⟨gb216, _, none⟩) (by first | exact Nat.ne_of_lt (Nat.lt_of_lt_of_le (by have := World.block_lt_of_cell? _ _ hw218_2; first | rwa [add_block] at this | exact this) GW216.out) | (rw [add_block]; exact Nat.ne_of_lt (Nat.lt_of_lt_of_le (by have := World.block_lt_of_cell? _ _ hw218_2; first | rwa [add_block] at this | exact this) GW216.out)) | (show (Addr.add _ _).block ≠ _; rw [add_block]; exact Nat.ne_of_lt (Nat.lt_of_lt_of_le (by have := World.block_lt_of_cell? _ _ hw218_2; first | rwa [add_block] at this | exact this) GW216.out)) | (dsimp only; exact Nat.ne_of_lt (Nat.lt_of_lt_of_le (by have := World.block_lt_of_cell? _ _ hw218_2; first | rwa [add_block] at this | exact this) GW216.out))) _).trans (hHeld.2.2.2.2.2.2.2.2.2.1)))))), ((cell_far (p := ⟨gb216, _, none⟩) (by first | exact Nat.ne_of_lt (Nat.lt_of_lt_of_le (by have := World.block_lt_of_cell? _ _ hw218_3; first | rwa [add_block] at this | exact this) GW216.out) | (rw [add_block]; exact Nat.ne_of_lt (Nat.lt_of_lt_of_le (by have := World.block_lt_of_cell? _ _ hw218_3; first | rwa [add_block] at this | exact this) GW216.out)) | (show (Addr.add _ _).block ≠ _; rw [add_block]; exact Nat.ne_of_lt (Nat.lt_of_lt_of_le (by have := World.block_lt_of_cell? _ _ hw218_3; first | rwa [add_block] at this | exact this) GW216.out)) | (dsimp only; exact Nat.ne_of_lt (Nat.lt_of_lt_of_le (by have := World.block_lt_of_cell? _ _ hw218_3; first | rwa [add_block] at this | exact this) GW216.out))) _).trans (((cell_far (p := ⟨gb216, _, none⟩) (by first | exact Nat.ne_of_lt (Nat.lt_of_lt_of_le (by have := World.block_lt_of_cell? _ _ hw218_3; first | rwa [add_block] at this | exact this) GW216.out) | (rw [add_block]; exact Nat.ne_of_lt (Nat.lt_of_lt_of_le (by have := World.block_lt_of_cell? _ _ hw218_3; first | rwa [add_block] at this | exact this) GW216.out)) | (show (Addr.add _ _).block ≠ _; rw [add_block]; exact Nat.ne_of_lt (Nat.lt_of_lt_of_le (by have := World.block_lt_of_cell? _ _ hw218_3; first | rwa [add_block] at this | exact this) GW216.out)) | (dsimp only; exact Nat.ne_of_lt (Nat.lt_of_lt_of_le (by have := World.block_lt_of_cell? _ _ hw218_3; first | rwa [add_block] at this | exact this) GW216.out))) _).trans (((cell_far (p := ⟨gb216, _, none⟩) (by first | exact Nat.ne_of_lt (Nat.lt_of_lt_of_le (by have := World.block_lt_of_cell? _ _ hw218_3; first | rwa [add_block] at this | exact this) GW216.out) | (rw [add_block]; exact Nat.ne_of_lt (Nat.lt_of_lt_of_le (by have := World.block_lt_of_cell? _ _ hw218_3; first | rwa [add_block] at this | exact this) GW216.out)) | (show (Addr.add _ _).block ≠ _; rw [add_block]; exact Nat.ne_of_lt (Nat.lt_of_lt_of_le (by have := World.block_lt_of_cell? _ _ hw218_3; first | rwa [add_block] at this | exact this) GW216.out)) | (dsimp only; exact Nat.ne_of_lt (Nat.lt_of_lt_of_le (by have := World.block_lt_of_cell? _ _ hw218_3; first | rwa [add_block] at this | exact this) GW216.out))) _).trans (hHeld.2.2.2.2.2.2.2.2.2.2.1)))))), ((cell_far (p := ⟨gb216, _, none⟩) (by first | exact Nat.ne_of_lt (Nat.lt_of_lt_of_le (by have := World.block_lt_of_cell? _ _ hw218_4; first | rwa [add_block] at this | exact this) GW216.out) | (rw [add_block]; exact Nat.ne_of_lt (Nat.lt_of_lt_of_le (by have := World.block_lt_of_cell? _ _ hw218_4; first | rwa [add_block] at this | exact this) GW216.out)) | (show (Addr.add _ _).block ≠ _; rw [add_block]; exact Nat.ne_of_lt (Nat.lt_of_lt_of_le (by have := World.block_lt_of_cell? _ _ hw218_4; first | rwa [add_block] at this | exact this) GW216.out)) | (dsimp only; exact Nat.ne_of_lt (Nat.lt_of_lt_of_le (by have := World.block_lt_of_cell? _ _ hw218_4; first | rwa [add_block] at this | exact this) GW216.out))) _).trans (((cell_far (p := ⟨gb216, _, none⟩) (by first | exact Nat.ne_of_lt (Nat.lt_of_lt_of_le (by have := World.block_lt_of_cell? _ _ hw218_4; first | rwa [add_block] at this | exact this) GW216.out) | (rw [add_block]; exact Nat.ne_of_lt (Nat.lt_of_lt_of_le (by have := World.block_lt_of_cell? _ _ hw218_4; first | rwa [add_block] at this | exact this) GW216.out)) | (show (Addr.add _ _).block ≠ _; rw [add_block]; exact Nat.ne_of_lt (Nat.lt_of_lt_of_le (by have := World.block_lt_of_cell? _ _ hw218_4; first | rwa [add_block] at this | exact this) GW216.out)) | (dsimp only; exact Nat.ne_of_lt (Nat.lt_of_lt_of_le (by have := World.block_lt_of_cell? _ _ hw218_4; first | rwa [add_block] at this | exact this) GW216.out))) _).trans (((cell_far (p := ⟨gb216, _, none⟩) (by first | exact Nat.ne_of_lt (Nat.lt_of_lt_of_le (by have := World.block_lt_of_cell? _ _ hw218_4; first | rwa [add_block] at this | exact this) GW216.out) | (rw [add_block]; exact Nat.ne_of_lt (Nat.lt_of_lt_of_le (by have := World.block_lt_of_cell? _ _ hw218_4; first | rwa [add_block] at this | exact this) GW216.out)) | (show (Addr.add _ _).block ≠ _; rw [add_block]; exact Nat.ne_of_lt (Nat.lt_of_lt_of_le (by have := World.block_lt_of_cell? _ _ hw218_4; first | rwa [add_block] at this | exact this) GW216.out)) | (dsimp only; exact Nat.ne_of_lt (Nat.lt_of_lt_of_le (by have := World.block_lt_of_cell? _ _ hw218_4; first | rwa [add_block] at this | exact this) GW216.out))) _).trans (hHeld.2.2.2.2.2.2.2.2.2.2.2.1)))))), ((cell_far (p := ⟨gb216, _, none⟩) (by first | exact Nat.ne_of_lt (Nat.lt_of_lt_of_le (by have := World.block_lt_of_cell? _ _ hw218_5; first | rwa [add_block] at this | exact this) GW216.out) | (rw [add_block]; exact Nat.ne_of_lt (Nat.lt_of_lt_of_le (by have := World.block_lt_of_cell? _ _ hw218_5; first | rwa [add_block] at this | exact this) GW216.out)) | (show (Addr.add _ _).block ≠ _; rw [add_block]; exact Nat.ne_of_lt (Nat.lt_of_lt_of_le (by have := World.block_lt_of_cell? _ _ hw218_5; first | rwa [add_block] at this | exact this) GW216.out)) | (dsimp only; exact Nat.ne_of_lt (Nat.lt_of_lt_of_le (by have := World.block_lt_of_cell? _ _ hw218_5; first | rwa [add_block] at this | exact this) GW216.out))) _).trans (((cell_far (p := ⟨gb216, _, none⟩) (by first | exact Nat.ne_of_lt (Nat.lt_of_lt_of_le (by have := World.block_lt_of_cell? _ _ hw218_5; first | rwa [add_block] at this | exact this) GW216.out) | (rw [add_block]; exact Nat.ne_of_lt (Nat.lt_of_lt_of_le (by have := World.block_lt_of_cell? _ _ hw218_5; first | rwa [add_block] at this | exact this) GW216.out)) | (show (Addr.add _ _).block ≠ _; rw [add_block]; exact Nat.ne_of_lt (Nat.lt_of_lt_of_le (by have := World.block_lt_of_cell? _ _ hw218_5; first | rwa [add_block] at this | exact this) GW216.out)) | (dsimp only; exact Nat.ne_of_lt (Nat.lt_of_lt_of_le (by have := World.block_lt_of_cell? _ _ hw218_5; first | rwa [add_block] at this | exact this) GW216.out))) _).trans (((cell_far (p := ⟨gb216, _, none⟩) (by first | exact Nat.ne_of_lt (Nat.lt_of_lt_of_le (by have := World.block_lt_of_cell? _ _ hw218_5; first | rwa [add_block] at this | exact this) GW216.out) | (rw [add_block]; exact Nat.ne_of_lt (Nat.lt_of_lt_of_le (by have := World.block_lt_of_cell? _ _ hw218_5; first | rwa [add_block] at this | exact this) GW216.out)) | (show (Addr.add _ _).block ≠ _; rw [add_block]; exact Nat.ne_of_lt (Nat.lt_of_lt_of_le (by have := World.block_lt_of_cell? _ _ hw218_5; first | rwa [add_block] at this | exact this) GW216.out)) | (dsimp only; exact Nat.ne_of_lt (Nat.lt_of_lt_of_le (by have := World.block_lt_of_cell? _ _ hw218_5; first | rwa [add_block] at this | exact this) GW216.out))) _).trans (hHeld.2.2.2.2.2.2.2.2.2.2.2.2.1)))))), ((cell_far (p := ⟨gb216, _, none⟩) (by first | exact Nat.ne_of_lt (Nat.lt_of_lt_of_le (by have := World.block_lt_of_cell? _ _ hw218_6; first | rwa [add_block] at this | exact this) GW216.out) | (rw [add_block]; exact Nat.ne_of_lt (Nat.lt_of_lt_of_le (by have := World.block_lt_of_cell? _ _ hw218_6; first | rwa [add_block] at this | exact this) GW216.out)) | (show (Addr.add _ _).block ≠ _; rw [add_block]; exact Nat.ne_of_lt (Nat.lt_of_lt_of_le (by have := World.block_lt_of_cell? _ _ hw218_6; first | rwa [add_block] at this | exact this) GW216.out)) | (dsimp only; exact Nat.ne_of_lt (Nat.lt_of_lt_of_le (by have := World.block_lt_of_cell? _ _ hw218_6; first | rwa [add_block] at this | exact this) GW216.out))) _).trans (((cell_far (p := ⟨gb216, _, none⟩) (by first | exact Nat.ne_of_lt (Nat.lt_of_lt_of_le (by have := World.block_lt_of_cell? _ _ hw218_6; first | rwa [add_block] at this | exact this) GW216.out) | (rw [add_block]; exact Nat.ne_of_lt (Nat.lt_of_lt_of_le (by have := World.block_lt_of_cell? _ _ hw218_6; first | rwa [add_block] at this | exact this) GW216.out)) | (show (Addr.add _ _).block ≠ _; rw [add_block]; exact Nat.ne_of_lt (Nat.lt_of_lt_of_le (by have := World.block_lt_of_cell? _ _ hw218_6; first | rwa [add_block] at this | exact this) GW216.out)) | (dsimp only; exact Nat.ne_of_lt (Nat.lt_of_lt_of_le (by have := World.block_lt_of_cell? _ _ hw218_6; first | rwa [add_block] at this | exact this) GW216.out))) _).trans (((cell_far (p := ⟨gb216, _, none⟩) (by first | exact Nat.ne_of_lt (Nat.lt_of_lt_of_le (by have := World.block_lt_of_cell? _ _ hw218_6; first | rwa [add_block] at this | exact this) GW216.out) | (rw [add_block]; exact Nat.ne_of_lt (Nat.lt_of_lt_of_le (by have := World.block_lt_of_cell? _ _ hw218_6; first | rwa [add_block] at this | exact this) GW216.out)) | (show (Addr.add _ _).block ≠ _; rw [add_block]; exact Nat.ne_of_lt (Nat.lt_of_lt_of_le (by have := World.block_lt_of_cell? _ _ hw218_6; first | rwa [add_block] at this | exact this) GW216.out)) | (dsimp only; exact Nat.ne_of_lt (Nat.lt_of_lt_of_le (by have := World.block_lt_of_cell? _ _ hw218_6; first | rwa [add_block] at this | exact this) GW216.out))) _).trans (hHeld.2.2.2.2.2.2.2.2.2.2.2.2.2.1)))))), ((cell_far (p := ⟨gb216, _, none⟩) (by first | exact Nat.ne_of_lt (Nat.lt_of_lt_of_le (by have := World.block_lt_of_cell? _ _ hw222_0; first | rwa [add_block] at this | exact this) GW216.out) | (rw [add_block]; exact Nat.ne_of_lt (Nat.lt_of_lt_of_le (by have := World.block_lt_of_cell? _ _ hw222_0; first | rwa [add_block] at this | exact this) GW216.out)) | (show (Addr.add _ _).block ≠ _; rw [add_block]; exact Nat.ne_of_lt (Nat.lt_of_lt_of_le (by have := World.block_lt_of_cell? _ _ hw222_0; first | rwa [add_block] at this | exact this) GW216.out)) | (dsimp only; exact Nat.ne_of_lt (Nat.lt_of_lt_of_le (by have := World.block_lt_of_cell? _ _ hw222_0; first | rwa [add_block] at this | exact this) GW216.out))) _).trans (((cell_far (p := ⟨gb216, _, none⟩) (by first | exact Nat.ne_of_lt (Nat.lt_of_lt_of_le (by have := World.block_lt_of_cell? _ _ hw222_0; first | rwa [add_block] at this | exact this) GW216.out) | (rw [add_block]; exact Nat.ne_of_lt (Nat.lt_of_lt_of_le (by have := World.block_lt_of_cell? _ _ hw222_0; first | rwa [add_block] at this | exact this) GW216.out)) | (show (Addr.add _ _).block ≠ _; rw [add_block]; exact Nat.ne_of_lt (Nat.lt_of_lt_of_le (by have := World.block_lt_of_cell? _ _ hw222_0; first | rwa [add_block] at this | exact this) GW216.out)) | (dsimp only; exact Nat.ne_of_lt (Nat.lt_of_lt_of_le (by have := World.block_lt_of_cell? _ _ hw222_0; first | rwa [add_block] at this | exact this) GW216.out))) _).trans (((cell_far (p := ⟨gb216, _, none⟩) (by first | exact Nat.ne_of_lt (Nat.lt_of_lt_of_le (by have := World.block_lt_of_cell? _ _ hw222_0; first | rwa [add_block] at this | exact this) GW216.out) | (rw [add_block]; exact Nat.ne_of_lt (Nat.lt_of_lt_of_le (by have := World.block_lt_of_cell? _ _ hw222_0; first | rwa [add_block] at this | exact this) GW216.out)) | (show (Addr.add _ _).block ≠ _; rw [add_block]; exact Nat.ne_of_lt (Nat.lt_of_lt_of_le (by have := World.block_lt_of_cell? _ _ hw222_0; first | rwa [add_block] at this | exact this) GW216.out)) | (dsimp only; exact Nat.ne_of_lt (Nat.lt_of_lt_of_le (by have := World.block_lt_of_cell? _ _ hw222_0; first | rwa [add_block] at this | exact this) GW216.out))) _).trans (hHeld.2.2.2.2.2.2.2.2.2.2.2.2.2.2.1)))))), ((cell_far (p := ⟨gb216, _, none⟩) (by first | exact Nat.ne_of_lt (Nat.lt_of_lt_of_le (by have := World.block_lt_of_cell? _ _ hw222_1; first | rwa [add_block] at this | exact this) GW216.out) | (rw [add_block]; exact Nat.ne_of_lt (Nat.lt_of_lt_of_le (by have := World.block_lt_of_cell? _ _ hw222_1; first | rwa [add_block] at this | exact this) GW216.out)) | (show (Addr.add _ _).block ≠ _; rw [add_block]; exact Nat.ne_of_lt (Nat.lt_of_lt_of_le (by have := World.block_lt_of_cell? _ _ hw222_1; first | rwa [add_block] at this | exact this) GW216.out)) | (dsimp only; exact Nat.ne_of_lt (Nat.lt_of_lt_of_le (by have := World.block_lt_of_cell? _ _ hw222_1; first | rwa [add_block] at this | exact this) GW216.out))) _).trans (((cell_far (p := ⟨gb216, _, none⟩) (by first | exact Nat.ne_of_lt (Nat.lt_of_lt_of_le (by have := World.block_lt_of_cell? _ _ hw222_1; first | rwa [add_block] at this | exact this) GW216.out) | (rw [add_block]; exact Nat.ne_of_lt (Nat.lt_of_lt_of_le (by have := World.block_lt_of_cell? _ _ hw222_1; first | rwa [add_block] at this | exact this) GW216.out)) | (show (Addr.add _ _).block ≠ _; rw [add_block]; exact Nat.ne_of_lt (Nat.lt_of_lt_of_le (by have := World.block_lt_of_cell? _ _ hw222_1; first | rwa [add_block] at this | exact this) GW216.out)) | (dsimp only; exact Nat.ne_of_lt (Nat.lt_of_lt_of_le (by have := World.block_lt_of_cell? _ _ hw222_1; first | rwa [add_block] at this | exact this) GW216.out))) _).trans (((cell_far (p := ⟨gb216, _, none⟩) (by first | exact Nat.ne_of_lt (Nat.lt_of_lt_of_le (by have := World.block_lt_of_cell? _ _ hw222_1; first | rwa [add_block] at this | exact this) GW216.out) | (rw [add_block]; exact Nat.ne_of_lt (Nat.lt_of_lt_of_le (by have := World.block_lt_of_cell? _ _ hw222_1; first | rwa [add_block] at this | exact this) GW216.out)) | (show (Addr.add _ _).block ≠ _; rw [add_block]; exact Nat.ne_of_lt (Nat.lt_of_lt_of_le (by have := World.block_lt_of_cell? _ _ hw222_1; first | rwa [add_block] at this | exact this) GW216.out)) | (dsimp only; exact Nat.ne_of_lt (Nat.lt_of_lt_of_le (by have := World.block_lt_of_cell? _ _ hw222_1; first | rwa [add_block] at this | exact this) GW216.out))) _).trans (hHeld.2.2.2.2.2.2.2.2.2.2.2.2.2.2.2.1)))))), ((cell_far (p := ⟨gb216, _, none⟩) (by first | exact Nat.ne_of_lt (Nat.lt_of_lt_of_le (by have := World.block_lt_of_cell? _ _ hw222_2; first | rwa [add_block] at this | exact this) GW216.out) | (rw [add_block]; exact Nat.ne_of_lt (Nat.lt_of_lt_of_le (by have := World.block_lt_of_cell? _ _ hw222_2; first | rwa [add_block] at this | exact this) GW216.out)) | (show (Addr.add _ _).block ≠ _; rw [add_block]; exact Nat.ne_of_lt (Nat.lt_of_lt_of_le (by have := World.block_lt_of_cell? _ _ hw222_2; first | rwa [add_block] at this | exact this) GW216.out)) | (dsimp only; exact Nat.ne_of_lt (Nat.lt_of_lt_of_le (by have := World.block_lt_of_cell? _ _ hw222_2; first | rwa [add_block] at this | exact this) GW216.out))) _).trans (((cell_far (p := ⟨gb216, _, none⟩) (by first | exact Nat.ne_of_lt (Nat.lt_of_lt_of_le (by have := World.block_lt_of_cell? _ _ hw222_2; first | rwa [add_block] at this | exact this) GW216.out) | (rw [add_block]; exact Nat.ne_of_lt (Nat.lt_of_lt_of_le (by have := World.block_lt_of_cell? _ _ hw222_2; first | rwa [add_block] at this | exact this) GW216.out)) | (show (Addr.add _ _).block ≠ _; rw [add_block]; exact Nat.ne_of_lt (Nat.lt_of_lt_of_le (by have := World.block_lt_of_cell? _ _ hw222_2; first | rwa [add_block] at this | exact this) GW216.out)) | (dsimp only; exact Nat.ne_of_lt (Nat.lt_of_lt_of_le (by have := World.block_lt_of_cell? _ _ hw222_2; first | rwa [add_block] at this | exact this) GW216.out))) _).trans (((cell_far (p := ⟨gb216, _, none⟩) (by first | exact Nat.ne_of_lt (Nat.lt_of_lt_of_le (by have := World.block_lt_of_cell? _ _ hw222_2; first | rwa [add_block] at this | exact this) GW216.out) | (rw [add_block]; exact Nat.ne_of_lt (Nat.lt_of_lt_of_le (by have := World.block_lt_of_cell? _ _ hw222_2; first | rwa [add_block] at this | exact this) GW216.out)) | (show (Addr.add _ _).block ≠ _; rw [add_block]; exact Nat.ne_of_lt (Nat.lt_of_lt_of_le (by have := World.block_lt_of_cell? _ _ hw222_2; first | rwa [add_block] at this | exact this) GW216.out)) | (dsimp only; exact Nat.ne_of_lt (Nat.lt_of_lt_of_le (by have := World.block_lt_of_cell? _ _ hw222_2; first | rwa [add_block] at this | exact this) GW216.out))) _).trans (hHeld.2.2.2.2.2.2.2.2.2.2.2.2.2.2.2.2.1)))))), ((cell_far (p := ⟨gb216, _, none⟩) (by first | exact Nat.ne_of_lt (Nat.lt_of_lt_of_le (by have := World.block_lt_of_cell? _ _ hw222_3; first | rwa [add_block] at this | exact this) GW216.out) | (rw [add_block]; exact Nat.ne_of_lt (Nat.lt_of_lt_of_le (by have := World.block_lt_of_cell? _ _ hw222_3; first | rwa [add_block] at this | exact this) GW216.out)) | (show (Addr.add _ _).block ≠ _; rw [add_block]; exact Nat.ne_of_lt (Nat.lt_of_lt_of_le (by have := World.block_lt_of_cell? _ _ hw222_3; first | rwa [add_block] at this | exact this) GW216.out)) | (dsimp only; exact Nat.ne_of_lt (Nat.lt_of_lt_of_le (by have := World.block_lt_of_cell? _ _ hw222_3; first | rwa [add_block] at this | exact this) GW216.out))) _).trans (((cell_far (p := ⟨gb216, _, none⟩) (by first | exact Nat.ne_of_lt (Nat.lt_of_lt_of_le (by have := World.block_lt_of_cell? _ _ hw222_3; first | rwa [add_block] at this | exact this) GW216.out) | (rw [add_block]; exact Nat.ne_of_lt (Nat.lt_of_lt_of_le (by have := World.block_lt_of_cell? _ _ hw222_3; first | rwa [add_block] at this | exact this) GW216.out)) | (show (Addr.add _ _).block ≠ _; rw [add_block]; exact Nat.ne_of_lt (Nat.lt_of_lt_of_le (by have := World.block_lt_of_cell? _ _ hw222_3; first | rwa [add_block] at this | exact this) GW216.out)) | (dsimp only; exact Nat.ne_of_lt (Nat.lt_of_lt_of_le (by have := World.block_lt_of_cell? _ _ hw222_3; first | rwa [add_block] at this | exact this) GW216.out))) _).trans (((cell_far (p := ⟨gb216, _, none⟩) (by first | exact Nat.ne_of_lt (Nat.lt_of_lt_of_le (by have := World.block_lt_of_cell? _ _ hw222_3; first | rwa [add_block] at this | exact this) GW216.out) | (rw [add_block]; exact Nat.ne_of_lt (Nat.lt_of_lt_of_le (by have := World.block_lt_of_cell? _ _ hw222_3; first | rwa [add_block] at this | exact this) GW216.out)) | (show (Addr.add _ _).block ≠ _; rw [add_block]; exact Nat.ne_of_lt (Nat.lt_of_lt_of_le (by have := World.block_lt_of_cell? _ _ hw222_3; first | rwa [add_block] at this | exact this) GW216.out)) | (dsimp only; exact Nat.ne_of_lt (Nat.lt_of_lt_of_le (by have := World.block_lt_of_cell? _ _ hw222_3; first | rwa [add_block] at this | exact this) GW216.out))) _).trans (hHeld.2.2.2.2.2.2.2.2.2.2.2.2.2.2.2.2.2.1)))))), ((cell_far (p := ⟨gb216, _, none⟩) (by first | exact Nat.ne_of_lt (Nat.lt_of_lt_of_le (by have := World.block_lt_of_cell? _ _ hw222_4; first | rwa [add_block] at this | exact this) GW216.out) | (rw [add_block]; exact Nat.ne_of_lt (Nat.lt_of_lt_of_le (by have := World.block_lt_of_cell? _ _ hw222_4; first | rwa [add_block] at this | exact this) GW216.out)) | (show (Addr.add _ _).block ≠ _; rw [add_block]; exact Nat.ne_of_lt (Nat.lt_of_lt_of_le (by have := World.block_lt_of_cell? _ _ hw222_4; first | rwa [add_block] at this | exact this) GW216.out)) | (dsimp only; exact Nat.ne_of_lt (Nat.lt_of_lt_of_le (by have := World.block_lt_of_cell? _ _ hw222_4; first | rwa [add_block] at this | exact this) GW216.out))) _).trans (((cell_far (p := ⟨gb216, _, none⟩) (by first | exact Nat.ne_of_lt (Nat.lt_of_lt_of_le (by have := World.block_lt_of_cell? _ _ hw222_4; first | rwa [add_block] at this | exact this) GW216.out) | (rw [add_block]; exact Nat.ne_of_lt (Nat.lt_of_lt_of_le (by have := World.block_lt_of_cell? _ _ hw222_4; first | rwa [add_block] at this | exact this) GW216.out)) | (show (Addr.add _ _).block ≠ _; rw [add_block]; exact Nat.ne_of_lt (Nat.lt_of_lt_of_le (by have := World.block_lt_of_cell? _ _ hw222_4; first | rwa [add_block] at this | exact this) GW216.out)) | (dsimp only; exact Nat.ne_of_lt (Nat.lt_of_lt_of_le (by have := World.block_lt_of_cell? _ _ hw222_4; first | rwa [add_block] at this | exact this) GW216.out))) _).trans (((cell_far (p := ⟨gb216, _, none⟩) (by first | exact Nat.ne_of_lt (Nat.lt_of_lt_of_le (by have := World.block_lt_of_cell? _ _ hw222_4; first | rwa [add_block] at this | exact this) GW216.out) | (rw [add_block]; exact Nat.ne_of_lt (Nat.lt_of_lt_of_le (by have := World.block_lt_of_cell? _ _ hw222_4; first | rwa [add_block] at this | exact this) GW216.out)) | (show (Addr.add _ _).block ≠ _; rw [add_block]; exact Nat.ne_of_lt (Nat.lt_of_lt_of_le (by have := World.block_lt_of_cell? _ _ hw222_4; first | rwa [add_block] at this | exact this) GW216.out)) | (dsimp only; exact Nat.ne_of_lt (Nat.lt_of_lt_of_le (by have := World.block_lt_of_cell? _ _ hw222_4; first | rwa [add_block] at this | exact this) GW216.out))) _).trans (hHeld.2.2.2.2.2.2.2.2.2.2.2.2.2.2.2.2.2.2.1)))))), ((cell_far (p := ⟨gb216, _, none⟩) (by first | exact Nat.ne_of_lt (Nat.lt_of_lt_of_le (by have := World.block_lt_of_cell? _ _ hw222_5; first | rwa [add_block] at this | exact this) GW216.out) | (rw [add_block]; exact Nat.ne_of_lt (Nat.lt_of_lt_of_le (by have := World.block_lt_of_cell? _ _ hw222_5; first | rwa [add_block] at this | exact this) GW216.out)) | (show (Addr.add _ _).block ≠ _; rw [add_block]; exact Nat.ne_of_lt (Nat.lt_of_lt_of_le (by have := World.block_lt_of_cell? _ _ hw222_5; first | rwa [add_block] at this | exact this) GW216.out)) | (dsimp only; exact Nat.ne_of_lt (Nat.lt_of_lt_of_le (by have := World.block_lt_of_cell? _ _ hw222_5; first | rwa [add_block] at this | exact this) GW216.out))) _).trans (((cell_far (p := ⟨gb216, _, none⟩) (by first | exact Nat.ne_of_lt (Nat.lt_of_lt_of_le (by have := World.block_lt_of_cell? _ _ hw222_5; first | rwa [add_block] at this | exact this) GW216.out) | (rw [add_block]; exact Nat.ne_of_lt (Nat.lt_of_lt_of_le (by have := World.block_lt_of_cell? _ _ hw222_5; first | rwa [add_block] at this | exact this) GW216.out)) | (show (Addr.add _ _).block ≠ _; rw [add_block]; exact Nat.ne_of_lt (Nat.lt_of_lt_of_le (by have := World.block_lt_of_cell? _ _ hw222_5; first | rwa [add_block] at this | exact this) GW216.out)) | (dsimp only; exact Nat.ne_of_lt (Nat.lt_of_lt_of_le (by have := World.block_lt_of_cell? _ _ hw222_5; first | rwa [add_block] at this | exact this) GW216.out))) _).trans (((cell_far (p := ⟨gb216, _, none⟩) (by first | exact Nat.ne_of_lt (Nat.lt_of_lt_of_le (by have := World.block_lt_of_cell? _ _ hw222_5; first | rwa [add_block] at this | exact this) GW216.out) | (rw [add_block]; exact Nat.ne_of_lt (Nat.lt_of_lt_of_le (by have := World.block_lt_of_cell? _ _ hw222_5; first | rwa [add_block] at this | exact this) GW216.out)) | (show (Addr.add _ _).block ≠ _; rw [add_block]; exact Nat.ne_of_lt (Nat.lt_of_lt_of_le (by have := World.block_lt_of_cell? _ _ hw222_5; first | rwa [add_block] at this | exact this) GW216.out)) | (dsimp only; exact Nat.ne_of_lt (Nat.lt_of_lt_of_le (by have := World.block_lt_of_cell? _ _ hw222_5; first | rwa [add_block] at this | exact this) GW216.out))) _).trans (hHeld.2.2.2.2.2.2.2.2.2.2.2.2.2.2.2.2.2.2.2.1)))))), ((cell_far (p := ⟨gb216, _, none⟩) (by first | exact Nat.ne_of_lt (Nat.lt_of_lt_of_le (by have := World.block_lt_of_cell? _ _ hw222_6; first | rwa [add_block] at this | exact this) GW216.out) | (rw [add_block]; exact Nat.ne_of_lt (Nat.lt_of_lt_of_le (by have := World.block_lt_of_cell? _ _ hw222_6; first | rwa [add_block] at this | exact this) GW216.out)) | (show (Addr.add _ _).block ≠ _; rw [add_block]; exact Nat.ne_of_lt (Nat.lt_of_lt_of_le (by have := World.block_lt_of_cell? _ _ hw222_6; first | rwa [add_block] at this | exact this) GW216.out)) | (dsimp only; exact Nat.ne_of_lt (Nat.lt_of_lt_of_le (by have := World.block_lt_of_cell? _ _ hw222_6; first | rwa [add_block] at this | exact this) GW216.out))) _).trans (((cell_far (p := ⟨gb216, _, none⟩) (by first | exact Nat.ne_of_lt (Nat.lt_of_lt_of_le (by have := World.block_lt_of_cell? _ _ hw222_6; first | rwa [add_block] at this | exact this) GW216.out) | (rw [add_block]; exact Nat.ne_of_lt (Nat.lt_of_lt_of_le (by have := World.block_lt_of_cell? _ _ hw222_6; first | rwa [add_block] at this | exact this) GW216.out)) | (show (Addr.add _ _).block ≠ _; rw [add_block]; exact Nat.ne_of_lt (Nat.lt_of_lt_of_le (by have := World.block_lt_of_cell? _ _ hw222_6; first | rwa [add_block] at this | exact this) GW216.out)) | (dsimp only; exact Nat.ne_of_lt (Nat.lt_of_lt_of_le (by have := World.block_lt_of_cell? _ _ hw222_6; first | rwa [add_block] at this | exact this) GW216.out))) _).trans (((cell_far (p := ⟨gb216, _, none⟩) (by first | exact Nat.ne_of_lt (Nat.lt_of_lt_of_le (by have := World.block_lt_of_cell? _ _ hw222_6; first | rwa [add_block] at this | exact this) GW216.out) | (rw [add_block]; exact Nat.ne_of_lt (Nat.lt_of_lt_of_le (by have := World.block_lt_of_cell? _ _ hw222_6; first | rwa [add_block] at this | exact this) GW216.out)) | (show (Addr.add _ _).block ≠ _; rw [add_block]; exact Nat.ne_of_lt (Nat.lt_of_lt_of_le (by have := World.block_lt_of_cell? _ _ hw222_6; first | rwa [add_block] at this | exact this) GW216.out)) | (dsimp only; exact Nat.ne_of_lt (Nat.lt_of_lt_of_le (by have := World.block_lt_of_cell? _ _ hw222_6; first | rwa [add_block] at this | exact this) GW216.out))) _).trans (hHeld.2.2.2.2.2.2.2.2.2.2.2.2.2.2.2.2.2.2.2.2))))))⟩ (fun hHeld => ?_)
      clear hK K
      refine done_ (done_of HT_.out (by kernel_rfl)) ?_
      try go_wp2
      refine bodyPost_ret (results_cell_row rfl _ _ gb216 25 #[.int .i64 t226, .int .i64 t227, .string t228] (0, 0) _ rfl (bp3_ (bkx_ BK216.out)) Try.underlying25 rfl (by kernel_rfl)) rfl ?_
      exact ⟨er_, bb_⟩
     ·rw [if_neg c26] at H
      exact absurd H (by simp)
    ·rw [if_neg c24] at H
     exact absurd H (by simp)
   ·rw [if_neg c23] at H
    have c23b0 : (a0_0 == 2) = false := beq_eq_false_iff_ne.mpr c23
    have c23b1 : (a0_0 != 2) = true := bne_iff_ne.mpr c23
    by_cases c40 : a0_0 = 3
    ·rw [if_pos c40] at H
     have c40b0 : (a0_0 == 3) = true := beq_iff_eq.mpr c40
     have c40b1 : (a0_0 != 3) = false := bne_eq_false_iff_eq.mpr c40
     clear c40
     by_cases c41 : 0 < (l0_6.length : Int)
     ·rw [if_pos c41] at H
      have c41b0 : decide (0 < (l0_6.length : Int)) = true := decide_eq_true c41
      have c41b1 : decide (0 < l0_6.length) = true := decide_eq_true (by omega)
      clear c41
      replace H := Option.bind_eq_some_iff.mp H
      obtain ⟨⟨t230, t231, t232⟩, A420, H⟩ := H
      replace H : ((spec_Not.f t230 t231 t232).bind fun bt233 => (some (bt233.1, bt233.2.1, bt233.2.2))) = some (r1, r2, r3) := H
      have A42 := Aside0.mk A420
      clear A420
      replace H := Option.bind_eq_some_iff.mp H
      obtain ⟨⟨t233, t234, t235⟩, A430, H⟩ := H
      replace H : (some (t233, t234, t235)) = some (r1, r2, r3) := H
      have A43 := Aside0.mk A430
      clear A430
      simp only [Option.some.injEq, Prod.mk.injEq] at H
      obtain ⟨rfl, rfl, rfl⟩ := H
      go_enter Try.func71, Try.ntmps71
      go_wp2_with (first | ((with_reducible refine gate_dst (N := 2) rfl ?_); refine bx_ 2 #[.int .i64 a0_0, .int .i64 a0_1, .int .i64 a0_2, .int .i64 a0_3, .string a0_4, .string a0_5, .slice A0_6 l0_6.length c0_6] 55 ?_; intro gb215 hg w44 hbox hb; have BK215 := Aside0.mk (hbox); have GW215 := gw_ hg; have GE215 := gw_ hg; replace HB := bs_ hb; clear hb hbox hg) | ((with_reducible refine gate_dst (N := 4) rfl ?_); refine bx_ 4 #[.int .i64 0, .int .i64 0, .string (⟨#[]⟩ : ByteArray)] 25 ?_; intro gb216 hg w45 hbox hb; have BK216 := Aside0.mk (hbox); have GW216 := gw_ hg; have GE216 := gw_ hg; have NB215_216 := nl_ hg BK215; have NB216_215 := ng_ hg BK215; replace BK215 := bkb_ BK215 hb; replace HB := bs_ hb; clear hb hbox hg; have hnb46 := NB215_216.out; have hnc46 := NB216_215.out; obtain ⟨hcz47_0, hcz47_1, hcz47_2, hcz47_3, hcz47_4, hcz47_5, hcz47_6, hfz47_0, hfz47_1, hfz47_2, hfz47_3, hfz47_4, hfz47_5, hfz47_6⟩ := b7_ BK215; have p229 : 0 ≤ (0 : Int) := (by omega); have q229 : 0 < (l0_6.length : Int) := of_decide_eq_true (by first | (with_reducible assumption) | assumption); obtain ⟨ad229, A229_6, c229_6, e229, hx229_0, hx229_1, hx229_2, hx229_3, hx229_4, hx229_5, hx229_6, hl229_6, hi229_6⟩ := at_T55 HR0_6.out 0 p229 q229; cases e229; have qi229 : (0 < l0_6.length) = True := eq_true (by omega); (try rw [show ((0 : Int)).toNat = 0 from rfl] at hx229_0); (try rw [show 0 * 7 = 0 from rfl] at hx229_0); (try rw [Addr.add_zero'] at hx229_0); (try rw [show ((0 : Int)).toNat = 0 from rfl] at hx229_1); (try rw [show 0 * 7 = 0 from rfl] at hx229_1); (try rw [Addr.add_zero'] at hx229_1); (try rw [show ((0 : Int)).toNat = 0 from rfl] at hx229_2); (try rw [show 0 * 7 = 0 from rfl] at hx229_2); (try rw [Addr.add_zero'] at hx229_2); (try rw [show ((0 : Int)).toNat = 0 from rfl] at hx229_3); (try rw [show 0 * 7 = 0 from rfl] at hx229_3); (try rw [Addr.add_zero'] at hx229_3); (try rw [show ((0 : Int)).toNat = 0 from rfl] at hx229_4); (try rw [show 0 * 7 = 0 from rfl] at hx229_4); (try rw [Addr.add_zero'] at hx229_4); (try rw [show ((0 : Int)).toNat = 0 from rfl] at hx229_5); (try rw [show 0 * 7 = 0 from rfl] at hx229_5); (try rw [Addr.add_zero'] at hx229_5); (try rw [show ((0 : Int)).toNat = 0 from rfl] at hx229_6); (try rw [show 0 * 7 = 0 from rfl] at hx229_6); (try rw [Addr.add_zero'] at hx229_6); replace hx229_0 := hb_ HB hx229_0; replace hx229_1 := hb_ HB hx229_1; replace hx229_2 := hb_ HB hx229_2; replace hx229_3 := hb_ HB hx229_3; replace hx229_4 := hb_ HB hx229_4; replace hx229_5 := hb_ HB hx229_5; replace hx229_6 := hb_ HB hx229_6; have HR229_6 := Aside0.mk hi229_6; have HC229_6 := Aside0.mk hl229_6; clear hi229_6 hl229_6; replace p229 := eq_true p229; replace q229 := eq_true q229) | ((with_reducible refine gate_callee (f := 71) rfl ?_); refine gsL_ (some 48) Try.func71 #[.agg #[.int .i64 ((rd_T55 l0_6 0).f0), .int .i64 ((rd_T55 l0_6 0).f1), .int .i64 ((rd_T55 l0_6 0).f2.f0), .int .i64 ((rd_T55 l0_6 0).f2.f1), .string ((rd_T55 l0_6 0).f2.f2), .string ((rd_T55 l0_6 0).f3), .slice A229_6 ((rd_T55 l0_6 0).f4).length c229_6], .slice A1 l1.length c1] ?_; (with_reducible refine (ih k (by omega) ((rd_T55 l0_6 0).f0) ((rd_T55 l0_6 0).f1) ((rd_T55 l0_6 0).f2.f0) ((rd_T55 l0_6 0).f2.f1) ((rd_T55 l0_6 0).f2.f2) ((rd_T55 l0_6 0).f3) _ _ ((rd_T55 l0_6 0).f4) _ _ l1 t230 t231 t232 _ ?side1 ?side2 ?side3 ?side4 A42.out).mono ?_); (case side1 => exact ck_ (Kd.C_below HR229_6.out HB.out)); (case side2 => exact HC229_6.out); (case side3 => exact ck_ (Kd.C_below HR1.out HB.out)); (case side4 => exact HC1.out); rintro e w48 ⟨rfl, hb⟩; refine ⟨_, rfl, ?_⟩; replace BK215 := bkb_ BK215 hb; replace BK216 := bkb_ BK216 hb; replace HB := bs_ hb; (try clear hb); (try clear hb2); (try clear hk); (try clear hi)) | ((with_reducible refine gate_callee (f := 13) rfl ?_); refine gsL_ (some 49) Try.func13 #[.agg #[.int .i64 t230, .int .i64 t231, .string t232]] ?_; (with_reducible refine (spec_Not.calls t230 t231 t232 t233 t234 t235 _ A43.out).mono ?_); rintro e w49 ⟨rfl, hb⟩; refine ⟨_, rfl, ?_⟩; replace BK215 := bkb_ BK215 hb; replace BK216 := bkb_ BK216 hb; replace HB := bs_ hb; (try clear hb); (try clear hb2); (try clear hk); (try clear hi); obtain ⟨hcz50_0, hcz50_1, hcz50_2, hfz50_0, hfz50_1, hfz50_2⟩ := b3_ BK216))
      refine bodyPost_ret (results_cell_row rfl _ _ gb216 25 #[.int .i64 t233, .int .i64 t234, .string t235] (0, 0) _ rfl (bp3_ (bkx_ BK216.out)) Try.underlying25 rfl (by kernel_rfl)) rfl ?_
      exact ⟨er_, bb_⟩
     ·rw [if_neg c41] at H
      exact absurd H (by simp)
    ·rw [if_neg c40] at H
     have c40b0 : (a0_0 == 3) = false := beq_eq_false_iff_ne.mpr c40
     have c40b1 : (a0_0 != 3) = true := bne_iff_ne.mpr c40
     by_cases c51 : 0 < (l0_6.length : Int)
     ·rw [if_pos c51] at H
      have c51b0 : decide (0 < (l0_6.length : Int)) = true := decide_eq_true c51
      have c51b1 : decide (0 < l0_6.length) = true := decide_eq_true (by omega)
      clear c51
      replace H := Option.bind_eq_some_iff.mp H
      obtain ⟨⟨t237, t238, t239⟩, A520, H⟩ := H
      replace H : ((spec_IsNull.f t237 t238 t239).bind fun bt240 => (some (bt240.1, bt240.2.1, bt240.2.2))) = some (r1, r2, r3) := H
      have A52 := Aside0.mk A520
      clear A520
      replace H := Option.bind_eq_some_iff.mp H
      obtain ⟨⟨t240, t241, t242⟩, A530, H⟩ := H
      replace H : (some (t240, t241, t242)) = some (r1, r2, r3) := H
      have A53 := Aside0.mk A530
      clear A530
      simp only [Option.some.injEq, Prod.mk.injEq] at H
      obtain ⟨rfl, rfl, rfl⟩ := H
      go_enter Try.func71, Try.ntmps71
      go_wp2_with (first | ((with_reducible refine gate_dst (N := 2) rfl ?_); refine bx_ 2 #[.int .i64 a0_0, .int .i64 a0_1, .int .i64 a0_2, .int .i64 a0_3, .string a0_4, .string a0_5, .slice A0_6 l0_6.length c0_6] 55 ?_; intro gb215 hg w54 hbox hb; have BK215 := Aside0.mk (hbox); have GW215 := gw_ hg; have GE215 := gw_ hg; replace HB := bs_ hb; clear hb hbox hg) | ((with_reducible refine gate_dst (N := 4) rfl ?_); refine bx_ 4 #[.int .i64 0, .int .i64 0, .string (⟨#[]⟩ : ByteArray)] 25 ?_; intro gb216 hg w55 hbox hb; have BK216 := Aside0.mk (hbox); have GW216 := gw_ hg; have GE216 := gw_ hg; have NB215_216 := nl_ hg BK215; have NB216_215 := ng_ hg BK215; replace BK215 := bkb_ BK215 hb; replace HB := bs_ hb; clear hb hbox hg; have hnb56 := NB215_216.out; have hnc56 := NB216_215.out; obtain ⟨hcz57_0, hcz57_1, hcz57_2, hcz57_3, hcz57_4, hcz57_5, hcz57_6, hfz57_0, hfz57_1, hfz57_2, hfz57_3, hfz57_4, hfz57_5, hfz57_6⟩ := b7_ BK215; have p236 : 0 ≤ (0 : Int) := (by omega); have q236 : 0 < (l0_6.length : Int) := of_decide_eq_true (by first | (with_reducible assumption) | assumption); obtain ⟨ad236, A236_6, c236_6, e236, hx236_0, hx236_1, hx236_2, hx236_3, hx236_4, hx236_5, hx236_6, hl236_6, hi236_6⟩ := at_T55 HR0_6.out 0 p236 q236; cases e236; have qi236 : (0 < l0_6.length) = True := eq_true (by omega); (try rw [show ((0 : Int)).toNat = 0 from rfl] at hx236_0); (try rw [show 0 * 7 = 0 from rfl] at hx236_0); (try rw [Addr.add_zero'] at hx236_0); (try rw [show ((0 : Int)).toNat = 0 from rfl] at hx236_1); (try rw [show 0 * 7 = 0 from rfl] at hx236_1); (try rw [Addr.add_zero'] at hx236_1); (try rw [show ((0 : Int)).toNat = 0 from rfl] at hx236_2); (try rw [show 0 * 7 = 0 from rfl] at hx236_2); (try rw [Addr.add_zero'] at hx236_2); (try rw [show ((0 : Int)).toNat = 0 from rfl] at hx236_3); (try rw [show 0 * 7 = 0 from rfl] at hx236_3); (try rw [Addr.add_zero'] at hx236_3); (try rw [show ((0 : Int)).toNat = 0 from rfl] at hx236_4); (try rw [show 0 * 7 = 0 from rfl] at hx236_4); (try rw [Addr.add_zero'] at hx236_4); (try rw [show ((0 : Int)).toNat = 0 from rfl] at hx236_5); (try rw [show 0 * 7 = 0 from rfl] at hx236_5); (try rw [Addr.add_zero'] at hx236_5); (try rw [show ((0 : Int)).toNat = 0 from rfl] at hx236_6); (try rw [show 0 * 7 = 0 from rfl] at hx236_6); (try rw [Addr.add_zero'] at hx236_6); replace hx236_0 := hb_ HB hx236_0; replace hx236_1 := hb_ HB hx236_1; replace hx236_2 := hb_ HB hx236_2; replace hx236_3 := hb_ HB hx236_3; replace hx236_4 := hb_ HB hx236_4; replace hx236_5 := hb_ HB hx236_5; replace hx236_6 := hb_ HB hx236_6; have HR236_6 := Aside0.mk hi236_6; have HC236_6 := Aside0.mk hl236_6; clear hi236_6 hl236_6; replace p236 := eq_true p236; replace q236 := eq_true q236) | ((with_reducible refine gate_callee (f := 71) rfl ?_); refine gsL_ (some 55) Try.func71 #[.agg #[.int .i64 ((rd_T55 l0_6 0).f0), .int .i64 ((rd_T55 l0_6 0).f1), .int .i64 ((rd_T55 l0_6 0).f2.f0), .int .i64 ((rd_T55 l0_6 0).f2.f1), .string ((rd_T55 l0_6 0).f2.f2), .string ((rd_T55 l0_6 0).f3), .slice A236_6 ((rd_T55 l0_6 0).f4).length c236_6], .slice A1 l1.length c1] ?_; (with_reducible refine (ih k (by omega) ((rd_T55 l0_6 0).f0) ((rd_T55 l0_6 0).f1) ((rd_T55 l0_6 0).f2.f0) ((rd_T55 l0_6 0).f2.f1) ((rd_T55 l0_6 0).f2.f2) ((rd_T55 l0_6 0).f3) _ _ ((rd_T55 l0_6 0).f4) _ _ l1 t237 t238 t239 _ ?side1 ?side2 ?side3 ?side4 A52.out).mono ?_); (case side1 => exact ck_ (Kd.C_below HR236_6.out HB.out)); (case side2 => exact HC236_6.out); (case side3 => exact ck_ (Kd.C_below HR1.out HB.out)); (case side4 => exact HC1.out); rintro e w58 ⟨rfl, hb⟩; refine ⟨_, rfl, ?_⟩; replace BK215 := bkb_ BK215 hb; replace BK216 := bkb_ BK216 hb; replace HB := bs_ hb; (try clear hb); (try clear hb2); (try clear hk); (try clear hi)) | ((with_reducible refine gate_callee (f := 15) rfl ?_); refine gsL_ (some 56) Try.func15 #[.agg #[.int .i64 t237, .int .i64 t238, .string t239]] ?_; (with_reducible refine (spec_IsNull.calls t237 t238 t239 t240 t241 t242 _ A53.out).mono ?_); rintro e w59 ⟨rfl, hb⟩; refine ⟨_, rfl, ?_⟩; replace BK215 := bkb_ BK215 hb; replace BK216 := bkb_ BK216 hb; replace HB := bs_ hb; (try clear hb); (try clear hb2); (try clear hk); (try clear hi); obtain ⟨hcz60_0, hcz60_1, hcz60_2, hfz60_0, hfz60_1, hfz60_2⟩ := b3_ BK216))
      refine bodyPost_ret (results_cell_row rfl _ _ gb216 25 #[.int .i64 t240, .int .i64 t241, .string t242] (0, 0) _ rfl (bp3_ (bkx_ BK216.out)) Try.underlying25 rfl (by kernel_rfl)) rfl ?_
      exact ⟨er_, bb_⟩
     ·rw [if_neg c51] at H
      exact absurd H (by simp)

/-! ### spec_Eval: function 31 -/
def spec_Eval.f (k : Nat) (a0_0 : Int) (a0_1 : Int) (a0_2 : Int) (a0_3 : Int) (a0_4 : ByteArray) (a0_5 : ByteArray) (l0_6 : List (S55)) (l1 : List (S25)) : Option (Int × Int × ByteArray) := (spec_ExpOk.f k a0_0 a0_1 a0_2 a0_3 a0_4 a0_5 l0_6).bind fun t245 => (if t245 = true then ((spec_l03Eval.f k a0_0 a0_1 a0_2 a0_3 a0_4 a0_5 l0_6 l1).bind fun bt246 => (some (bt246.1, bt246.2.1, bt246.2.2))) else (some (0, 0, (⟨#[]⟩ : ByteArray))))
set_option maxHeartbeats 8000000 in
set_option maxRecDepth 100000 in
theorem spec_Eval.calls (k : Nat) (a0_0 : Int) (a0_1 : Int) (a0_2 : Int) (a0_3 : Int) (a0_4 : ByteArray) (a0_5 : ByteArray) (A0_6 : Option Addr) (c0_6 : Nat) (l0_6 : List (S55)) (A1 : Option Addr) (c1 : Nat) (l1 : List (S25)) (r1 : Int) (r2 : Int) (r3 : ByteArray) (w : World) (hr0_6 : Kd.C k55 w A0_6 l0_6.length l0_6) (hc0_6 : l0_6.length ≤ c0_6) (hr1 : Kd.C k25 w A1 l1.length l1) (hc1 : l1.length ≤ c1) (h : spec_Eval.f k a0_0 a0_1 a0_2 a0_3 a0_4 a0_5 l0_6 l1 = some (r1, r2, r3)) :
  Calls Try.prog 31 #[.agg #[.int .i64 a0_0, .int .i64 a0_1, .int .i64 a0_2, .int .i64 a0_3, .string a0_4, .string a0_5, .slice A0_6 l0_6.length c0_6], .slice A1 l1.length c1] w fun e w' => e = .returned (.agg #[.int .i64 r1, .int .i64 r2, .string r3]) ∧ Below w.heap.size w w' := by
 have hu55 := Try.underlying55
 have hu25 := Try.underlying25
 have HR0_6 := Aside0.mk hr0_6
 have HC0_6 := Aside0.mk hc0_6
 clear hr0_6 hc0_6
 have HR1 := Aside0.mk hr1
 have HC1 := Aside0.mk hc1
 clear hr1 hc1
 have HB := Aside0.mk (Below.refl w.heap.size w)
 have H : ((spec_ExpOk.f k a0_0 a0_1 a0_2 a0_3 a0_4 a0_5 l0_6).bind fun t245 => (if t245 = true then ((spec_l03Eval.f k a0_0 a0_1 a0_2 a0_3 a0_4 a0_5 l0_6 l1).bind fun bt246 => (some (bt246.1, bt246.2.1, bt246.2.2))) else (some (0, 0, (⟨#[]⟩ : ByteArray))))) = some (r1, r2, r3) := h
 clear h
 replace H := Option.bind_eq_some_iff.mp H
 obtain ⟨t245, A30, H⟩ := H
 replace H : (if t245 = true then ((spec_l03Eval.f k a0_0 a0_1 a0_2 a0_3 a0_4 a0_5 l0_6 l1).bind fun bt246 => (some (bt246.1, bt246.2.1, bt246.2.2))) else (some (0, 0, (⟨#[]⟩ : ByteArray)))) = some (r1, r2, r3) := H
 have A3 := Aside0.mk A30
 clear A30
 by_cases c4 : t245 = true
 ·subst c4
  have H1 : ((spec_l03Eval.f k a0_0 a0_1 a0_2 a0_3 a0_4 a0_5 l0_6 l1).bind fun bt246 => (some (bt246.1, bt246.2.1, bt246.2.2))) = some (r1, r2, r3) := by rw [if_pos rfl] at H; exact H
  clear H
  have H := H1
  clear H1
  replace H := Option.bind_eq_some_iff.mp H
  obtain ⟨⟨t246, t247, t248⟩, A50, H⟩ := H
  replace H : (some (t246, t247, t248)) = some (r1, r2, r3) := H
  have A5 := Aside0.mk A50
  clear A50
  simp only [Option.some.injEq, Prod.mk.injEq] at H
  obtain ⟨rfl, rfl, rfl⟩ := H
  go_enter Try.func31, Try.ntmps31
  go_wp2_with (first | ((with_reducible refine gate_dst (N := 2) rfl ?_); refine bx_ 2 #[.int .i64 a0_0, .int .i64 a0_1, .int .i64 a0_2, .int .i64 a0_3, .string a0_4, .string a0_5, .slice A0_6 l0_6.length c0_6] 55 ?_; intro gb243 hg w6 hbox hb; have BK243 := Aside0.mk (hbox); have GW243 := gw_ hg; have GE243 := gw_ hg; replace HB := bs_ hb; clear hb hbox hg) | ((with_reducible refine gate_dst (N := 4) rfl ?_); refine bx_ 4 #[.int .i64 0, .int .i64 0, .string (⟨#[]⟩ : ByteArray)] 25 ?_; intro gb244 hg w7 hbox hb; have BK244 := Aside0.mk (hbox); have GW244 := gw_ hg; have GE244 := gw_ hg; have NB243_244 := nl_ hg BK243; have NB244_243 := ng_ hg BK243; replace BK243 := bkb_ BK243 hb; replace HB := bs_ hb; clear hb hbox hg; have hnb8 := NB243_244.out; have hnc8 := NB244_243.out; obtain ⟨hcz9_0, hcz9_1, hcz9_2, hcz9_3, hcz9_4, hcz9_5, hcz9_6, hfz9_0, hfz9_1, hfz9_2, hfz9_3, hfz9_4, hfz9_5, hfz9_6⟩ := b7_ BK243) | ((with_reducible refine gate_callee (f := 70) rfl ?_); refine gsL_ (some 6) Try.func70 #[.agg #[.int .i64 a0_0, .int .i64 a0_1, .int .i64 a0_2, .int .i64 a0_3, .string a0_4, .string a0_5, .slice A0_6 l0_6.length c0_6]] ?_; (with_reducible refine (spec_ExpOk.calls k a0_0 a0_1 a0_2 a0_3 a0_4 a0_5 _ _ l0_6 true _ ?side1 ?side2 A3.out).mono ?_); (case side1 => exact ck_ (Kd.C_below HR0_6.out HB.out)); (case side2 => exact HC0_6.out); rintro e w10 ⟨rfl, hb⟩; refine ⟨_, rfl, ?_⟩; replace BK243 := bkb_ BK243 hb; replace BK244 := bkb_ BK244 hb; replace HB := bs_ hb; (try clear hb); (try clear hb2); (try clear hk); (try clear hi); obtain ⟨hcz11_0, hcz11_1, hcz11_2, hcz11_3, hcz11_4, hcz11_5, hcz11_6, hfz11_0, hfz11_1, hfz11_2, hfz11_3, hfz11_4, hfz11_5, hfz11_6⟩ := b7_ BK243) | ((with_reducible refine gate_callee (f := 71) rfl ?_); refine gsL_ (some 11) Try.func71 #[.agg #[.int .i64 a0_0, .int .i64 a0_1, .int .i64 a0_2, .int .i64 a0_3, .string a0_4, .string a0_5, .slice A0_6 l0_6.length c0_6], .slice A1 l1.length c1] ?_; (with_reducible refine (spec_l03Eval.calls k a0_0 a0_1 a0_2 a0_3 a0_4 a0_5 _ _ l0_6 _ _ l1 t246 t247 t248 _ ?side1 ?side2 ?side3 ?side4 A5.out).mono ?_); (case side1 => exact ck_ (Kd.C_below HR0_6.out HB.out)); (case side2 => exact HC0_6.out); (case side3 => exact ck_ (Kd.C_below HR1.out HB.out)); (case side4 => exact HC1.out); rintro e w12 ⟨rfl, hb⟩; refine ⟨_, rfl, ?_⟩; replace BK243 := bkb_ BK243 hb; replace BK244 := bkb_ BK244 hb; replace HB := bs_ hb; (try clear hb); (try clear hb2); (try clear hk); (try clear hi); obtain ⟨hcz13_0, hcz13_1, hcz13_2, hfz13_0, hfz13_1, hfz13_2⟩ := b3_ BK244))
  refine bodyPost_ret (results_cell_row rfl _ _ gb244 25 #[.int .i64 t246, .int .i64 t247, .string t248] (0, 0) _ rfl (bp3_ (bkx_ BK244.out)) Try.underlying25 rfl (by kernel_rfl)) rfl ?_
  exact ⟨er_, bb_⟩
 ·replace c4 := Bool.eq_false_iff.mpr c4
  subst c4
  have H1 : (some (0, 0, (⟨#[]⟩ : ByteArray))) = some (r1, r2, r3) := by rw [if_neg (show ¬ (false = true) by decide)] at H; exact H
  clear H
  have H := H1
  clear H1
  simp only [Option.some.injEq, Prod.mk.injEq] at H
  obtain ⟨rfl, rfl, rfl⟩ := H
  go_enter Try.func31, Try.ntmps31
  go_wp2_with (first | ((with_reducible refine gate_dst (N := 2) rfl ?_); refine bx_ 2 #[.int .i64 a0_0, .int .i64 a0_1, .int .i64 a0_2, .int .i64 a0_3, .string a0_4, .string a0_5, .slice A0_6 l0_6.length c0_6] 55 ?_; intro gb243 hg w14 hbox hb; have BK243 := Aside0.mk (hbox); have GW243 := gw_ hg; have GE243 := gw_ hg; replace HB := bs_ hb; clear hb hbox hg) | ((with_reducible refine gate_dst (N := 4) rfl ?_); refine bx_ 4 #[.int .i64 0, .int .i64 0, .string (⟨#[]⟩ : ByteArray)] 25 ?_; intro gb244 hg w15 hbox hb; have BK244 := Aside0.mk (hbox); have GW244 := gw_ hg; have GE244 := gw_ hg; have NB243_244 := nl_ hg BK243; have NB244_243 := ng_ hg BK243; replace BK243 := bkb_ BK243 hb; replace HB := bs_ hb; clear hb hbox hg; have hnb16 := NB243_244.out; have hnc16 := NB244_243.out; obtain ⟨hcz17_0, hcz17_1, hcz17_2, hcz17_3, hcz17_4, hcz17_5, hcz17_6, hfz17_0, hfz17_1, hfz17_2, hfz17_3, hfz17_4, hfz17_5, hfz17_6⟩ := b7_ BK243) | ((with_reducible refine gate_callee (f := 70) rfl ?_); refine gsL_ (some 6) Try.func70 #[.agg #[.int .i64 a0_0, .int .i64 a0_1, .int .i64 a0_2, .int .i64 a0_3, .string a0_4, .string a0_5, .slice A0_6 l0_6.length c0_6]] ?_; (with_reducible refine (spec_ExpOk.calls k a0_0 a0_1 a0_2 a0_3 a0_4 a0_5 _ _ l0_6 false _ ?side1 ?side2 A3.out).mono ?_); (case side1 => exact ck_ (Kd.C_below HR0_6.out HB.out)); (case side2 => exact HC0_6.out); rintro e w18 ⟨rfl, hb⟩; refine ⟨_, rfl, ?_⟩; replace BK243 := bkb_ BK243 hb; replace BK244 := bkb_ BK244 hb; replace HB := bs_ hb; (try clear hb); (try clear hb2); (try clear hk); (try clear hi); obtain ⟨hcz19_0, hcz19_1, hcz19_2, hfz19_0, hfz19_1, hfz19_2⟩ := b3_ BK244))
  refine bodyPost_ret (results_cell_row rfl _ _ gb244 25 #[.int .i64 0, .int .i64 0, .string (⟨#[]⟩ : ByteArray)] (0, 0) _ rfl (bp3_ (bkx_ BK244.out)) Try.underlying25 rfl (by kernel_rfl)) rfl ?_
  exact ⟨er_, bb_⟩

/-! ### laws_toValue: function 72 -/
def laws_toValue.f (a0_0 : Int) (a0_1 : Int) (a0_2 : ByteArray) : Option (Int × Int × ByteArray) := some (a0_0, a0_1, a0_2)
set_option maxHeartbeats 8000000 in
set_option maxRecDepth 100000 in
theorem laws_toValue.calls (a0_0 : Int) (a0_1 : Int) (a0_2 : ByteArray) (r1 : Int) (r2 : Int) (r3 : ByteArray) (w : World) (h : laws_toValue.f a0_0 a0_1 a0_2 = some (r1, r2, r3)) :
  Calls Try.prog 72 #[.agg #[.int .i64 a0_0, .int .i64 a0_1, .string a0_2]] w fun e w' => e = .returned (.agg #[.int .i64 r1, .int .i64 r2, .string r3]) ∧ Below w.heap.size w w' := by
 have hu45 := Try.underlying45
 have hu25 := Try.underlying25
 have HB := Aside0.mk (Below.refl w.heap.size w)
 have H : (some (a0_0, a0_1, a0_2)) = some (r1, r2, r3) := h
 clear h
 simp only [Option.some.injEq, Prod.mk.injEq] at H
 obtain ⟨rfl, rfl, rfl⟩ := H
 go_enter Try.func72, Try.ntmps72
 go_wp2_with (first | ((with_reducible refine gate_dst (N := 1) rfl ?_); refine bx_ 1 #[.int .i64 a0_0, .int .i64 a0_1, .string a0_2] 45 ?_; intro gb249 hg w2 hbox hb; have BK249 := Aside0.mk (hbox); have GW249 := gw_ hg; have GE249 := gw_ hg; replace HB := bs_ hb; clear hb hbox hg) | ((with_reducible refine gate_dst (N := 2) rfl ?_); refine bx_ 2 #[.int .i64 0, .int .i64 0, .string (⟨#[]⟩ : ByteArray)] 25 ?_; intro gb250 hg w3 hbox hb; have BK250 := Aside0.mk (hbox); have GW250 := gw_ hg; have GE250 := gw_ hg; have NB249_250 := nl_ hg BK249; have NB250_249 := ng_ hg BK249; replace BK249 := bkb_ BK249 hb; replace HB := bs_ hb; clear hb hbox hg) | ((with_reducible refine gate_dst (N := 3) rfl ?_); refine bx_ 3 #[.int .i64 0, .int .i64 0, .string (⟨#[]⟩ : ByteArray)] 25 ?_; intro gb251 hg w4 hbox hb; have BK251 := Aside0.mk (hbox); have GW251 := gw_ hg; have GE251 := gw_ hg; have NB249_251 := nl_ hg BK249; have NB251_249 := ng_ hg BK249; have NB250_251 := nl_ hg BK250; have NB251_250 := ng_ hg BK250; replace BK249 := bkb_ BK249 hb; replace BK250 := bkb_ BK250 hb; replace HB := bs_ hb; clear hb hbox hg; have hnb5 := NB249_250.out; have hnc5 := NB250_249.out; have hnb6 := NB249_251.out; have hnc6 := NB251_249.out; obtain ⟨hcz7_0, hcz7_1, hcz7_2, hfz7_0, hfz7_1, hfz7_2⟩ := b3_ BK249; have hnb8 := NB251_250.out; have hnc8 := NB250_251.out; obtain ⟨hcz9_0, hcz9_1, hcz9_2, hfz9_0, hfz9_1, hfz9_2⟩ := b3_ BK251; obtain ⟨hcz10_0, hcz10_1, hcz10_2, hfz10_0, hfz10_1, hfz10_2⟩ := b3_ BK250))
 refine bodyPost_ret (results_cell_row rfl _ _ gb250 25 #[.int .i64 a0_0, .int .i64 a0_1, .string a0_2] (0, 0) _ rfl (by (with_reducible repeat (first | refine blk_drewN ?_ _ | refine blk_drew ?_ | refine blk_alloc ?_ _)); refine blk_put (cs := #[.int .i64 a0_0, .int .i64 a0_1, .string (⟨#[]⟩ : ByteArray)]) ?_ 2 _ rfl; (with_reducible repeat (first | refine blk_drewN ?_ _ | refine blk_drew ?_ | refine blk_alloc ?_ _)); refine blk_put (cs := #[.int .i64 a0_0, .int .i64 0, .string (⟨#[]⟩ : ByteArray)]) ?_ 1 _ rfl; (with_reducible repeat (first | refine blk_drewN ?_ _ | refine blk_drew ?_ | refine blk_alloc ?_ _)); refine blk_put (cs := #[.int .i64 0, .int .i64 0, .string (⟨#[]⟩ : ByteArray)]) ?_ 0 _ rfl; (with_reducible repeat (first | refine blk_drewN ?_ _ | refine blk_drew ?_ | refine blk_alloc ?_ _)); refine blk_far ?_ NB250_251.out _; (with_reducible repeat (first | refine blk_drewN ?_ _ | refine blk_drew ?_ | refine blk_alloc ?_ _)); refine blk_far ?_ NB250_251.out _; (with_reducible repeat (first | refine blk_drewN ?_ _ | refine blk_drew ?_ | refine blk_alloc ?_ _)); refine blk_far ?_ NB250_251.out _; (with_reducible repeat (first | refine blk_drewN ?_ _ | refine blk_drew ?_ | refine blk_alloc ?_ _)); exact BK250.out) Try.underlying25 rfl (by kernel_rfl)) rfl ?_
 exact ⟨er_, bb_⟩

/-! ### laws_toExpS: function 73 -/
def laws_toExpS.l0 (E_ : Int → Int → Int → Int → ByteArray → ByteArray → (List (S48)) → Option (Int × Int × Int × Int × ByteArray × ByteArray × (List (S55)))) : Nat → List (S48) → List (S55) → Int → Option ((List (S55)))
 | 0, _, _, _ => none
 | k + 1, x0, x3, x4 => if x4 < (x0.length : Int) then (if 0 ≤ x4 then ((E_ ((rd_T48 x0 x4).f0) ((rd_T48 x0 x4).f1) ((rd_T48 x0 x4).f2.f0) ((rd_T48 x0 x4).f2.f1) ((rd_T48 x0 x4).f2.f2) ((rd_T48 x0 x4).f3) ((rd_T48 x0 x4).f4)).bind fun bt256 => (if x4 < (x3.length : Int) then (laws_toExpS.l0 E_ k x0 (x3.set (x4 : Int).toNat (⟨bt256.1, bt256.2.1, (⟨bt256.2.2.1, bt256.2.2.2.1, bt256.2.2.2.2.1⟩ : S25), bt256.2.2.2.2.2.1, bt256.2.2.2.2.2.2⟩ : S55)) (wrap64 (x4 + 1))) else (none))) else (none)) else (some x3)
def laws_toExpS.f (E_ : Int → Int → Int → Int → ByteArray → ByteArray → (List (S48)) → Option (Int × Int × Int × Int × ByteArray × ByteArray × (List (S55)))) (k : Nat) (l0 : List (S48)) : Option ((List (S55))) := if 0 ≤ (l0.length : Int) then (if ((l0.length : Int) : Int).toNat ≤ 3198579280802 then (laws_toExpS.l0 E_ k l0 (List.replicate ((l0.length : Int) : Int).toNat z55) 0) else (none)) else (none)
set_option maxHeartbeats 8000000 in
set_option maxRecDepth 100000 in
theorem laws_toExpS.calls (E_ : Int → Int → Int → Int → ByteArray → ByteArray → (List (S48)) → Option (Int × Int × Int × Int × ByteArray × ByteArray × (List (S55)))) (hE_ : ∀ (a0_0 : Int) (a0_1 : Int) (a0_2 : Int) (a0_3 : Int) (a0_4 : ByteArray) (a0_5 : ByteArray) (A0_6 : Option Addr) (c0_6 : Nat) (l0_6 : List (S48)) (r1 : Int) (r2 : Int) (r3 : Int) (r4 : Int) (r5 : ByteArray) (r6 : ByteArray) (r7 : List (S55)) (w : World) (hr0_6 : Kd.C k48 w A0_6 l0_6.length l0_6) (hc0_6 : l0_6.length ≤ c0_6) (h : E_ a0_0 a0_1 a0_2 a0_3 a0_4 a0_5 l0_6 = some (r1, r2, r3, r4, r5, r6, r7)), Calls Try.prog 32 #[.agg #[.int .i64 a0_0, .int .i64 a0_1, .int .i64 a0_2, .int .i64 a0_3, .string a0_4, .string a0_5, .slice A0_6 l0_6.length c0_6]] w fun e w' => ∃ v6_ : Value, e = .returned (.agg #[.int .i64 r1, .int .i64 r2, .int .i64 r3, .int .i64 r4, .string r5, .string r6, v6_]) ∧ Kd.R k55 55 w' w.heap.size (fun _ => True) v6_ r7 ∧ Below w.heap.size w w') (k : Nat) (A0 : Option Addr) (c0 : Nat) (l0 : List (S48)) (r : List (S55)) (w : World) (hr0 : Kd.C k48 w A0 l0.length l0) (hc0 : l0.length ≤ c0) (h : laws_toExpS.f E_ k l0 = some r) :
  Calls Try.prog 73 #[.slice A0 l0.length c0] w fun e w' => ∃ v0_ : Value, e = .returned (v0_) ∧ Kd.R k55 55 w' w.heap.size (fun _ => True) v0_ r ∧ Below w.heap.size w w' := by
 have hu48 := Try.underlying48
 have hu55 := Try.underlying55
 have HR0 := Aside0.mk hr0
 have HC0 := Aside0.mk hc0
 clear hr0 hc0
 have HB := Aside0.mk (Below.refl w.heap.size w)
 have H : (if 0 ≤ (l0.length : Int) then (if ((l0.length : Int) : Int).toNat ≤ 3198579280802 then (laws_toExpS.l0 E_ k l0 (List.replicate ((l0.length : Int) : Int).toNat z55) 0) else (none)) else (none)) = some r := h
 clear h
 by_cases c2 : 0 ≤ (l0.length : Int)
 ·rw [if_pos c2] at H
  have c2b0 := eq_true c2
  have c2b1 : decide (0 ≤ (l0.length : Int)) = true := decide_eq_true c2
  clear c2
  by_cases c3 : ((l0.length : Int) : Int).toNat ≤ 3198579280802
  ·rw [if_pos c3] at H
   have c3b0 := eq_true c3
   have c3b1 : decide (((l0.length : Int) : Int).toNat ≤ 3198579280802) = true := decide_eq_true c3
   clear c3
   obtain ⟨y252, hy252⟩ : ∃ y_ : List (S55), y_ = (List.replicate ((l0.length : Int) : Int).toNat z55) := ⟨_, rfl⟩
   replace H : (laws_toExpS.l0 E_ k l0 y252 0) = some r := by first | (rw [hy252]; with_reducible exact H) | (have H2_ := (Option.bind_some _ _).symm.trans H; rw [hy252]; with_reducible exact H2_) | (have H2_ := (Option.bind_some _ _).symm.trans H; with_reducible exact H2_) | with_reducible exact H | (rw [hy252]; exact H) | exact H
   have Ny252 := Aside0.mk hy252
   clear hy252
   have H' := Aside0.mk H
   clear H
   go_enter Try.func73, Try.ntmps73
   go_wp2_with (first | ((with_reducible refine gate_dst (N := 7) rfl ?_); refine Kd.R_make k55 _ 55 rfl (N := 7) rfl 53 _ _ rfl (l0.length : Int) rfl rfl Try.underlying53 (.agg #[(.int .i64 0), (.int .i64 0), (.int .i64 0), (.int .i64 0), (.string ⟨#[]⟩), (.string ⟨#[]⟩), (.slice none 0 0)]) 88 info55 rfl (by decide) (by omega) z55 (ok := fun _ => True) (okp := fun _ => True) (k55_mkM _ _ _ z55 (Kd.R_nil _ _ _ _ _)) (fun _ hk => hk) trivial (of_decide_eq_true (by first | (with_reducible assumption) | assumption)) (Nat.le_trans (Nat.mul_le_mul_right _ (of_decide_eq_true (by first | (with_reducible assumption) | assumption) : (l0.length : Int).toNat ≤ 3198579280802)) (by omega)) (Below.refl _ _) (Nat.le_refl _) ?_; intro v253 w4 ho5 hb hg_ hnew_; clear hg_ hnew_; (first | rw [← Ny252.out] at ho5 | (simp only [Int.reduceToNat] at ho5; rw [← Ny252.out] at ho5)); have HO254 := Aside0.mk (Kd.R_lower ho5 (below_size bb_)); replace HB := bs_ hb; clear hb ho5))
   go_loopg [4] k (fun kq v4 w' => ∃ (x3_1 : List (S55)) (x4_1 : Int), v4 = .int .i64 x4_1 ∧ Aside0 (laws_toExpS.l0 E_ kq l0 x3_1 x4_1 = some r) ∧ Aside0 (kq ≤ k) ∧ Aside0 (Kd.R k55 55 w' w.heap.size (fun _ => True) v253 x3_1) ∧ Aside0 (Below w.heap.size w w'))
   case atStart => exact ⟨(y252), (0), rs_, H', ⟨Nat.le_refl _⟩, ⟨by (with_reducible repeat (first | apply Kd.R_alloc | apply Kd.R_drewN | apply Kd.R_drew)); exact HO254.out⟩, ⟨bb_⟩⟩
   case round =>
    clear H'
    try clear c2
    try clear c2b0
    try clear c2b1
    try clear p2
    try clear c3
    try clear c3b0
    try clear c3b1
    obtain ⟨x3_1, x4_1, rfl, HA, HK1, HO_3, HB⟩ := hrel
    cases gk with
    | zero => exact absurd HA.out (by simp [laws_toExpS.l0])
    | succ k1 =>
     have H := HA.out
     clear HA
     simp only [laws_toExpS.l0] at H
     by_cases c6 : x4_1 < (l0.length : Int)
     ·rw [if_pos c6] at H
      have c6b0 : decide (x4_1 < (l0.length : Int)) = true := decide_eq_true c6
      clear c6
      by_cases c7 : 0 ≤ x4_1
      ·rw [if_pos c7] at H
       have c7b0 : decide (0 ≤ x4_1) = true := decide_eq_true c7
       clear c7
       replace H := Option.bind_eq_some_iff.mp H
       obtain ⟨⟨t256, t257, t258, t259, t260, t261, t262⟩, A80, H⟩ := H
       replace H : (if x4_1 < (x3_1.length : Int) then (laws_toExpS.l0 E_ k1 l0 (x3_1.set (x4_1 : Int).toNat (⟨t256, t257, (⟨t258, t259, t260⟩ : S25), t261, t262⟩ : S55)) (wrap64 (x4_1 + 1))) else (none)) = some r := H
       have A8 := Aside0.mk A80
       clear A80
       by_cases c9 : x4_1 < (x3_1.length : Int)
       ·rw [if_pos c9] at H
        have c9b0 : decide (x4_1 < (x3_1.length : Int)) = true := decide_eq_true c9
        clear c9
        obtain ⟨y265, hy265⟩ : ∃ y_ : List (S55), y_ = (x3_1.set (x4_1 : Int).toNat (⟨t256, t257, (⟨t258, t259, t260⟩ : S25), t261, t262⟩ : S55)) := ⟨_, rfl⟩
        replace H : (laws_toExpS.l0 E_ k1 l0 y265 (wrap64 (x4_1 + 1))) = some r := by first | (rw [hy265]; with_reducible exact H) | (have H2_ := (Option.bind_some _ _).symm.trans H; rw [hy265]; with_reducible exact H2_) | (have H2_ := (Option.bind_some _ _).symm.trans H; with_reducible exact H2_) | with_reducible exact H | (rw [hy265]; exact H) | exact H
        have Ny265 := Aside0.mk hy265
        clear hy265
        have H' := Aside0.mk H
        clear H
        have p255 : 0 ≤ (x4_1 : Int) := of_decide_eq_true (by first | (with_reducible assumption) | assumption)
        have q255 : x4_1 < (l0.length : Int) := of_decide_eq_true (by first | (with_reducible assumption) | assumption)
        obtain ⟨ad255, A255_6, c255_6, e255, hx255_0, hx255_1, hx255_2, hx255_3, hx255_4, hx255_5, hx255_6, hl255_6, hi255_6⟩ := at_T48 HR0.out x4_1 p255 q255
        cases e255
        replace hx255_0 := hb_ HB hx255_0
        replace hx255_1 := hb_ HB hx255_1
        replace hx255_2 := hb_ HB hx255_2
        replace hx255_3 := hb_ HB hx255_3
        replace hx255_4 := hb_ HB hx255_4
        replace hx255_5 := hb_ HB hx255_5
        replace hx255_6 := hb_ HB hx255_6
        have HR255_6 := Aside0.mk hi255_6
        have HC255_6 := Aside0.mk hl255_6
        clear hi255_6 hl255_6
        replace p255 := eq_true p255
        replace q255 := eq_true q255
        go_wp2_with (first | ((with_reducible refine gate_callee (f := 32) rfl ?_); refine gsL_ (some 20) Try.func32 #[.agg #[.int .i64 ((rd_T48 l0 x4_1).f0), .int .i64 ((rd_T48 l0 x4_1).f1), .int .i64 ((rd_T48 l0 x4_1).f2.f0), .int .i64 ((rd_T48 l0 x4_1).f2.f1), .string ((rd_T48 l0 x4_1).f2.f2), .string ((rd_T48 l0 x4_1).f3), .slice A255_6 ((rd_T48 l0 x4_1).f4).length c255_6]] ?_; (with_reducible refine (hE_ ((rd_T48 l0 x4_1).f0) ((rd_T48 l0 x4_1).f1) ((rd_T48 l0 x4_1).f2.f0) ((rd_T48 l0 x4_1).f2.f1) ((rd_T48 l0 x4_1).f2.f2) ((rd_T48 l0 x4_1).f3) _ _ ((rd_T48 l0 x4_1).f4) t256 t257 t258 t259 t260 t261 t262 _ ?side1 ?side2 A8.out).mono ?_); (case side1 => exact ck_ (Kd.C_below HR255_6.out HB.out)); (case side2 => exact HC255_6.out); rintro e w11 ⟨v263, rfl, ho0, hb⟩; refine ⟨_, rfl, ?_⟩; have HO264 := Aside0.mk (Kd.R_lower (Kd.R_new' ho0 (Kd.R_lt (rk_ HO_3.out))) (below_size bb_)); replace HO_3 := Aside0.mk (Kd.R_elder' (rk_ HO_3.out) (Kd.R_base ho0) hb); replace HB := bs_ hb; (try clear hb); (try clear hb2); (try clear hk); (try clear hi); (try clear ho0); have p10 : 0 ≤ (x4_1 : Int) := of_decide_eq_true (by first | (with_reducible assumption) | assumption); have q10 : (x4_1 : Int) < ((x3_1.length : Int) : Int) := of_decide_eq_true (by first | (with_reducible assumption) | assumption); obtain ⟨go10, co10, eo10, gb10, gl10, cl10, HG10⟩ := Kd.R_form HO_3.out (by omega); (first | cases eo10 | (injection eo10 with ea_ en_ ec_; (first | subst ea_ | (injection ea_ with ea_; subst ea_)); subst ec_; clear en_)); have GB10 := Aside0.mk gb10; have GG10 := Aside0.mk HG10; clear gb10 gl10 HG10; obtain ⟨ce10, hcl10, hM10, hcc10, hfr10⟩ := Kd.R_elem HO_3.out z55 (x4_1 : Int) p10 q10; obtain ⟨ve10_6, rfl, ge10_6⟩ := k55_openM hM10; have hx10_0 : w11.cell? ⟨go10, (x4_1 : Int).toNat * 7, none⟩ = some (.int .i64 ((rd_T55 x3_1 x4_1).f0)) := hcc10 0 _ rfl; have hx10_1 : w11.cell? ⟨go10, (x4_1 : Int).toNat * 7 + 1, none⟩ = some (.int .i64 ((rd_T55 x3_1 x4_1).f1)) := hcc10 1 _ rfl; have hx10_2 : w11.cell? ⟨go10, (x4_1 : Int).toNat * 7 + 2, none⟩ = some (.int .i64 ((rd_T55 x3_1 x4_1).f2.f0)) := hcc10 2 _ rfl; have hx10_3 : w11.cell? ⟨go10, (x4_1 : Int).toNat * 7 + 3, none⟩ = some (.int .i64 ((rd_T55 x3_1 x4_1).f2.f1)) := hcc10 3 _ rfl; have hx10_4 : w11.cell? ⟨go10, (x4_1 : Int).toNat * 7 + 4, none⟩ = some (.string ((rd_T55 x3_1 x4_1).f2.f2)) := hcc10 4 _ rfl; have hx10_5 : w11.cell? ⟨go10, (x4_1 : Int).toNat * 7 + 5, none⟩ = some (.string ((rd_T55 x3_1 x4_1).f3)) := hcc10 5 _ rfl; have hx10_6 : w11.cell? ⟨go10, (x4_1 : Int).toNat * 7 + 6, none⟩ = some (ve10_6) := hcc10 6 _ rfl; have hf10_0 : w11.frozen? ⟨go10, (x4_1 : Int).toNat * 7, none⟩ = false := hfr10 0; have hf10_1 : w11.frozen? ⟨go10, (x4_1 : Int).toNat * 7 + 1, none⟩ = false := hfr10 1; have hf10_2 : w11.frozen? ⟨go10, (x4_1 : Int).toNat * 7 + 2, none⟩ = false := hfr10 2; have hf10_3 : w11.frozen? ⟨go10, (x4_1 : Int).toNat * 7 + 3, none⟩ = false := hfr10 3; have hf10_4 : w11.frozen? ⟨go10, (x4_1 : Int).toNat * 7 + 4, none⟩ = false := hfr10 4; have hf10_5 : w11.frozen? ⟨go10, (x4_1 : Int).toNat * 7 + 5, none⟩ = false := hfr10 5; have hf10_6 : w11.frozen? ⟨go10, (x4_1 : Int).toNat * 7 + 6, none⟩ = false := hfr10 6; clear hcl10 hcc10 hfr10 hM10; replace p10 := eq_true p10; replace q10 := eq_true q10; obtain ⟨Ao12, co12, eo12⟩ := Kd.R_slice HO264.out; subst eo12; have n_ := Aside0.mk (Kd.R_mono (ok' := (fun k_ => some k_ ≠ (.slice Ao12 t262.length co12 : Value).ownBlock)) HO_3.out (fun k_ hk => hk.2)); clear HO_3; have HO_3 := n_; clear n_; have HX13 := Aside0.mk (show Kd.R k55 55 w11 w.heap.size (fun _ => True) (.slice (some ⟨go10, 0, none⟩) x3_1.length co10) x3_1 from (rk_ (Kd.R_mono HO_3.out (fun _ hk => trivial)))); obtain ⟨ce13, hcl13, hM13, hcc13, hfr13⟩ := Kd.R_elem HX13.out z55 (x4_1 : Int) (of_decide_eq_true (by first | (with_reducible assumption) | assumption)) (by have h_ : (x4_1 : Int) < ((x3_1.length : Int) : Int) := of_decide_eq_true (by first | (with_reducible assumption) | assumption); first | exact h_ | (have e_ := (Kd.R_reads' HO_3.out).1; omega) | simpa using h_); obtain ⟨ve13_6, rfl, ge13_6⟩ := k55_openM hM13; have HP13 := Kd.R_seg HX13.out (x4_1 : Int) (of_decide_eq_true (by first | (with_reducible assumption) | assumption)) (by have h_ : (x4_1 : Int) < ((x3_1.length : Int) : Int) := of_decide_eq_true (by first | (with_reducible assumption) | assumption); first | exact h_ | (have e_ := (Kd.R_reads' HO_3.out).1; omega) | simpa using h_) (seg := [.int .i64 t256, .int .i64 t257, .int .i64 t258, .int .i64 t259, .string t260, .string t261, .slice Ao12 t262.length co12]) (j := 0) hcl13 hcc13 (show 7 ≤ 7 from by decide) (x' := (⟨t256, t257, (⟨t258, t259, t260⟩ : S25), t261, t262⟩ : S55)) (k55_mkM _ _ _ (⟨t256, t257, (⟨t258, t259, t260⟩ : S25), t261, t262⟩ : S55) (Kd.R_mono (HO264.out) (fun k_ hk => ⟨trivial, fun e_ => (hk.2) (by rw [e_]; rfl)⟩))) (fun _ hk => hk); have hx13_0 := hcc13 0 _ rfl; (try simp only [show (k55).sz = 7 from rfl, Nat.mul_one, Nat.add_zero] at hx13_0); have hf13_0 := hfr13 0; (try simp only [show (k55).sz = 7 from rfl, Nat.mul_one, Nat.add_zero] at hf13_0); have hx13_1 := hcc13 1 _ rfl; (try simp only [show (k55).sz = 7 from rfl, Nat.mul_one, Nat.add_zero] at hx13_1); have hf13_1 := hfr13 1; (try simp only [show (k55).sz = 7 from rfl, Nat.mul_one, Nat.add_zero] at hf13_1); have hx13_2 := hcc13 2 _ rfl; (try simp only [show (k55).sz = 7 from rfl, Nat.mul_one, Nat.add_zero] at hx13_2); have hf13_2 := hfr13 2; (try simp only [show (k55).sz = 7 from rfl, Nat.mul_one, Nat.add_zero] at hf13_2); have hx13_3 := hcc13 3 _ rfl; (try simp only [show (k55).sz = 7 from rfl, Nat.mul_one, Nat.add_zero] at hx13_3); have hf13_3 := hfr13 3; (try simp only [show (k55).sz = 7 from rfl, Nat.mul_one, Nat.add_zero] at hf13_3); have hx13_4 := hcc13 4 _ rfl; (try simp only [show (k55).sz = 7 from rfl, Nat.mul_one, Nat.add_zero] at hx13_4); have hf13_4 := hfr13 4; (try simp only [show (k55).sz = 7 from rfl, Nat.mul_one, Nat.add_zero] at hf13_4); have hx13_5 := hcc13 5 _ rfl; (try simp only [show (k55).sz = 7 from rfl, Nat.mul_one, Nat.add_zero] at hx13_5); have hf13_5 := hfr13 5; (try simp only [show (k55).sz = 7 from rfl, Nat.mul_one, Nat.add_zero] at hf13_5); have hx13_6 := hcc13 6 _ rfl; (try simp only [show (k55).sz = 7 from rfl, Nat.mul_one, Nat.add_zero] at hx13_6); have hf13_6 := hfr13 6; (try simp only [show (k55).sz = 7 from rfl, Nat.mul_one, Nat.add_zero] at hf13_6); clear hcl13 hcc13 hfr13 hM13) | ((with_reducible refine gate_store (t := 55) (p := 21) rfl ?_); refine store_event (t := 55) (p := 21) (v := ?vo_w14) (w1 := (((((((w11.setCell ⟨go10, (x4_1 : Int).toNat * 7, none⟩ (.int .i64 t256)).setCell ⟨go10, (x4_1 : Int).toNat * 7 + 1, none⟩ (.int .i64 t257)).setCell ⟨go10, (x4_1 : Int).toNat * 7 + 2, none⟩ (.int .i64 t258)).setCell ⟨go10, (x4_1 : Int).toNat * 7 + 3, none⟩ (.int .i64 t259)).setCell ⟨go10, (x4_1 : Int).toNat * 7 + 4, none⟩ (.string t260)).setCell ⟨go10, (x4_1 : Int).toNat * 7 + 5, none⟩ (.string t261)).setCell ⟨go10, (x4_1 : Int).toNat * 7 + 6, none⟩ (.slice Ao12 t262.length co12))) ?hg ?ho ?hn ?hr ?_; (case ho => rfl); (case hg => rfl); (case hn => rfl); (case hr => first | (go_simp; done) | (go_simp; rfl)); intro w14 hw; have hg : w11.grownBy w14 (some go10) := (by rw [hw]; exact HP13.2); have hp_ : Kd.R k55 55 w14 w.heap.size (fun _ => True) (.slice (some ⟨go10, 0, none⟩) x3_1.length co10) y265 := (by rw [hw, Ny265.out]; exact HP13.1); clear HP13; replace HO_3 := Aside0.mk (hp_); replace HB := Aside0.mk ((by rw [hw]; exact below_set (below_set (below_set (below_set (below_set (below_set (below_set (HB.out) GB10.out) GB10.out) GB10.out) GB10.out) GB10.out) GB10.out) GB10.out : Below w.heap.size w w14)); clear HO264; clear hg hw hp_))
        go_roundg k1
        case measure => have := HK1.out; omega
        case rel => exact ⟨(y265), (wrap64 (x4_1 + 1)), rs_, H', ⟨by have := HK1.out; omega⟩, ⟨by (with_reducible repeat (first | apply Kd.R_alloc | apply Kd.R_drewN | apply Kd.R_drew)); exact HO_3.out⟩, ⟨bb_⟩⟩
       ·rw [if_neg c9] at H
        exact absurd H (by simp)
      ·rw [if_neg c7] at H
       exact absurd H (by simp)
     ·rw [if_neg c6] at H
      have c6b0 : decide (x4_1 < (l0.length : Int)) = false := decide_eq_false c6
      clear c6
      obtain rfl := Option.some.inj H
      go_wp2
      go_ret
      exact ⟨_, by first | rfl | (simp [errW_none, errW_some] <;> rfl) | (simp [*, errW_none, errW_some] <;> rfl), by (with_reducible repeat (first | apply Kd.R_alloc | apply Kd.R_drewN | apply Kd.R_drew)); exact HO_3.out, by repeat (first | (with_reducible first | exact HB.out | apply below_alloc | apply pw_below_drewN | apply below_drew1) | exact HB.out)⟩
  ·rw [if_neg c3] at H
   exact absurd H (by simp)
 ·rw [if_neg c2] at H
  exact absurd H (by simp)

/-! ### laws_toExp: function 32 -/
def laws_toExp.f : Nat → Int → Int → Int → Int → ByteArray → ByteArray → (List (S48)) → Option (Int × Int × Int × Int × ByteArray × ByteArray × (List (S55)))
 | 0, _, _, _, _, _, _, _ => none
 | k + 1, a0_0, a0_1, a0_2, a0_3, a0_4, a0_5, l0_6 => (laws_toValue.f a0_2 a0_3 a0_4).bind fun bt269 => ((laws_toExpS.f (laws_toExp.f k) k l0_6).bind fun t272 => (some (a0_0, a0_1, bt269.1, bt269.2.1, bt269.2.2, a0_5, t272)))
set_option maxHeartbeats 8000000 in
set_option maxRecDepth 100000 in
theorem laws_toExp.calls : ∀ (k : Nat) (a0_0 : Int) (a0_1 : Int) (a0_2 : Int) (a0_3 : Int) (a0_4 : ByteArray) (a0_5 : ByteArray) (A0_6 : Option Addr) (c0_6 : Nat) (l0_6 : List (S48)) (r1 : Int) (r2 : Int) (r3 : Int) (r4 : Int) (r5 : ByteArray) (r6 : ByteArray) (r7 : List (S55)) (w : World) (hr0_6 : Kd.C k48 w A0_6 l0_6.length l0_6) (hc0_6 : l0_6.length ≤ c0_6) (h : laws_toExp.f k a0_0 a0_1 a0_2 a0_3 a0_4 a0_5 l0_6 = some (r1, r2, r3, r4, r5, r6, r7)),
  Calls Try.prog 32 #[.agg #[.int .i64 a0_0, .int .i64 a0_1, .int .i64 a0_2, .int .i64 a0_3, .string a0_4, .string a0_5, .slice A0_6 l0_6.length c0_6]] w fun e w' => ∃ v6_ : Value, e = .returned (.agg #[.int .i64 r1, .int .i64 r2, .int .i64 r3, .int .i64 r4, .string r5, .string r6, v6_]) ∧ Kd.R k55 55 w' w.heap.size (fun _ => True) v6_ r7 ∧ Below w.heap.size w w' := by
 intro k
 induction k with
 | zero =>
  intro a0_0 a0_1 a0_2 a0_3 a0_4 a0_5 A0_6 c0_6 l0_6 r1 r2 r3 r4 r5 r6 r7 w hr0_6 hc0_6 h
  exact absurd h (by simp [laws_toExp.f])
 | succ k ih_ =>
  intro a0_0 a0_1 a0_2 a0_3 a0_4 a0_5 A0_6 c0_6 l0_6 r1 r2 r3 r4 r5 r6 r7 w hr0_6 hc0_6 h
  have hu48 := Try.underlying48
  have hu55 := Try.underlying55
  have hu45 := Try.underlying45
  have hu25 := Try.underlying25
  have HR0_6 := Aside0.mk hr0_6
  have HC0_6 := Aside0.mk hc0_6
  clear hr0_6 hc0_6
  have HB := Aside0.mk (Below.refl w.heap.size w)
  have H : ((laws_toValue.f a0_2 a0_3 a0_4).bind fun bt269 => ((laws_toExpS.f (laws_toExp.f k) k l0_6).bind fun t272 => (some (a0_0, a0_1, bt269.1, bt269.2.1, bt269.2.2, a0_5, t272)))) = some (r1, r2, r3, r4, r5, r6, r7) := h
  clear h
  replace H := Option.bind_eq_some_iff.mp H
  obtain ⟨⟨t269, t270, t271⟩, A20, H⟩ := H
  replace H : ((laws_toExpS.f (laws_toExp.f k) k l0_6).bind fun t272 => (some (a0_0, a0_1, t269, t270, t271, a0_5, t272))) = some (r1, r2, r3, r4, r5, r6, r7) := H
  have A2 := Aside0.mk A20
  clear A20
  replace H := Option.bind_eq_some_iff.mp H
  obtain ⟨t272, A30, H⟩ := H
  replace H : (some (a0_0, a0_1, t269, t270, t271, a0_5, t272)) = some (r1, r2, r3, r4, r5, r6, r7) := H
  have A3 := Aside0.mk A30
  clear A30
  simp only [Option.some.injEq, Prod.mk.injEq] at H
  obtain ⟨rfl, rfl, rfl, rfl, rfl, rfl, rfl⟩ := H
  go_enter Try.func32, Try.ntmps32
  go_wp2_with (first | ((with_reducible refine gate_dst (N := 1) rfl ?_); refine bx_ 1 #[.int .i64 a0_0, .int .i64 a0_1, .int .i64 a0_2, .int .i64 a0_3, .string a0_4, .string a0_5, .slice A0_6 l0_6.length c0_6] 48 ?_; intro gb266 hg w4 hbox hb; have BK266 := Aside0.mk (hbox); have GW266 := gw_ hg; have GE266 := gw_ hg; replace HB := bs_ hb; clear hb hbox hg) | ((with_reducible refine gate_dst (N := 2) rfl ?_); refine bx_ 2 #[.int .i64 0, .int .i64 0, .int .i64 0, .int .i64 0, .string (⟨#[]⟩ : ByteArray), .string (⟨#[]⟩ : ByteArray), .slice none 0 0] 55 ?_; intro gb267 hg w5 hbox hb; have BK267 := Aside0.mk (hbox); have GW267 := gw_ hg; have GE267 := gw_ hg; have NB266_267 := nl_ hg BK266; have NB267_266 := ng_ hg BK266; replace BK266 := bkb_ BK266 hb; replace HB := bs_ hb; clear hb hbox hg) | ((with_reducible refine gate_dst (N := 3) rfl ?_); refine bx_ 3 #[.int .i64 0, .int .i64 0, .int .i64 0, .int .i64 0, .string (⟨#[]⟩ : ByteArray), .string (⟨#[]⟩ : ByteArray), .slice none 0 0] 55 ?_; intro gb268 hg w6 hbox hb; have BK268 := Aside0.mk (hbox); have GW268 := gw_ hg; have GE268 := gw_ hg; have NB266_268 := nl_ hg BK266; have NB268_266 := ng_ hg BK266; have NB267_268 := nl_ hg BK267; have NB268_267 := ng_ hg BK267; replace BK266 := bkb_ BK266 hb; replace BK267 := bkb_ BK267 hb; replace HB := bs_ hb; clear hb hbox hg; have hnb7 := NB266_267.out; have hnc7 := NB267_266.out; have hnb8 := NB266_268.out; have hnc8 := NB268_266.out; obtain ⟨hcz9_0, hcz9_1, hcz9_2, hcz9_3, hcz9_4, hcz9_5, hcz9_6, hfz9_0, hfz9_1, hfz9_2, hfz9_3, hfz9_4, hfz9_5, hfz9_6⟩ := b7_ BK266; have hnb10 := NB268_267.out; have hnc10 := NB267_268.out; obtain ⟨hcz11_0, hcz11_1, hcz11_2, hcz11_3, hcz11_4, hcz11_5, hcz11_6, hfz11_0, hfz11_1, hfz11_2, hfz11_3, hfz11_4, hfz11_5, hfz11_6⟩ := b7_ BK268) | ((with_reducible refine gate_callee (f := 72) rfl ?_); refine gsL_ (some 12) Try.func72 #[.agg #[.int .i64 a0_2, .int .i64 a0_3, .string a0_4]] ?_; (with_reducible refine (laws_toValue.calls a0_2 a0_3 a0_4 t269 t270 t271 _ A2.out).mono ?_); rintro e w12 ⟨rfl, hb⟩; refine ⟨_, rfl, ?_⟩; replace BK266 := Aside0.mk (blk_below (g := gb266) (o := .cells #[.int .i64 a0_0, .int .i64 a0_1, .int .i64 a0_2, .int .i64 a0_3, .string a0_4, .string a0_5, .slice A0_6 l0_6.length c0_6] 48 (0, 0)) (bf2_ NB266_268 (bkx_ BK266.out)) hb); replace BK267 := Aside0.mk (blk_below (g := gb267) (o := .cells #[.int .i64 0, .int .i64 0, .int .i64 0, .int .i64 0, .string (⟨#[]⟩ : ByteArray), .string (⟨#[]⟩ : ByteArray), .slice none 0 0] 55 (0, 0)) (bf2_ NB267_268 (bkx_ BK267.out)) hb); replace BK268 := Aside0.mk (blk_below (g := gb268) (o := .cells #[.int .i64 a0_0, .int .i64 a0_1, .int .i64 0, .int .i64 0, .string (⟨#[]⟩ : ByteArray), .string (⟨#[]⟩ : ByteArray), .slice none 0 0] 55 (0, 0)) (by (with_reducible repeat (first | refine blk_drewN ?_ _ | refine blk_drew ?_ | refine blk_alloc ?_ _)); refine blk_put (cs := #[.int .i64 a0_0, .int .i64 0, .int .i64 0, .int .i64 0, .string (⟨#[]⟩ : ByteArray), .string (⟨#[]⟩ : ByteArray), .slice none 0 0]) ?_ 1 _ rfl; (with_reducible repeat (first | refine blk_drewN ?_ _ | refine blk_drew ?_ | refine blk_alloc ?_ _)); refine blk_put (cs := #[.int .i64 0, .int .i64 0, .int .i64 0, .int .i64 0, .string (⟨#[]⟩ : ByteArray), .string (⟨#[]⟩ : ByteArray), .slice none 0 0]) ?_ 0 _ rfl; (with_reducible repeat (first | refine blk_drewN ?_ _ | refine blk_drew ?_ | refine blk_alloc ?_ _)); exact BK268.out) hb); replace HB := bs_ hb; (try clear hb); (try clear hb2); (try clear hk); (try clear hi); obtain ⟨hcz13_0, hcz13_1, hcz13_2, hcz13_3, hcz13_4, hcz13_5, hcz13_6, hfz13_0, hfz13_1, hfz13_2, hfz13_3, hfz13_4, hfz13_5, hfz13_6⟩ := b7_ BK268; obtain ⟨hcz14_0, hcz14_1, hcz14_2, hcz14_3, hcz14_4, hcz14_5, hcz14_6, hfz14_0, hfz14_1, hfz14_2, hfz14_3, hfz14_4, hfz14_5, hfz14_6⟩ := b7_ BK266) | ((with_reducible refine gate_callee (f := 73) rfl ?_); refine gsL_ (some 19) Try.func73 #[.slice A0_6 l0_6.length c0_6] ?_; (with_reducible refine (laws_toExpS.calls (laws_toExp.f k) ih_ k _ _ l0_6 t272 _ ?side1 ?side2 A3.out).mono ?_); (case side1 => exact Kd.C_below HR0_6.out bb_); (case side2 => exact HC0_6.out); rintro e w15 ⟨v273, rfl, ho0, hb⟩; refine ⟨_, rfl, ?_⟩; have HO274 := Aside0.mk (Kd.R_lower (Kd.R_newB (Kd.R_newB ho0 (g := gb267) (o := .cells #[.int .i64 0, .int .i64 0, .int .i64 0, .int .i64 0, .string (⟨#[]⟩ : ByteArray), .string (⟨#[]⟩ : ByteArray), .slice none 0 0] 55 (0, 0)) (bf4_ NB267_268 (bkx_ BK267.out))) (g := gb268) (o := .cells #[.int .i64 a0_0, .int .i64 a0_1, .int .i64 t269, .int .i64 t270, .string t271, .string a0_5, .slice none 0 0] 55 (0, 0)) (by (with_reducible repeat (first | refine blk_drewN ?_ _ | refine blk_drew ?_ | refine blk_alloc ?_ _)); refine blk_put (cs := #[.int .i64 a0_0, .int .i64 a0_1, .int .i64 t269, .int .i64 t270, .string t271, .string (⟨#[]⟩ : ByteArray), .slice none 0 0]) ?_ 5 _ rfl; (with_reducible repeat (first | refine blk_drewN ?_ _ | refine blk_drew ?_ | refine blk_alloc ?_ _)); refine blk_put (cs := #[.int .i64 a0_0, .int .i64 a0_1, .int .i64 t269, .int .i64 t270, .string (⟨#[]⟩ : ByteArray), .string (⟨#[]⟩ : ByteArray), .slice none 0 0]) ?_ 4 _ rfl; (with_reducible repeat (first | refine blk_drewN ?_ _ | refine blk_drew ?_ | refine blk_alloc ?_ _)); refine blk_put (cs := #[.int .i64 a0_0, .int .i64 a0_1, .int .i64 t269, .int .i64 0, .string (⟨#[]⟩ : ByteArray), .string (⟨#[]⟩ : ByteArray), .slice none 0 0]) ?_ 3 _ rfl; (with_reducible repeat (first | refine blk_drewN ?_ _ | refine blk_drew ?_ | refine blk_alloc ?_ _)); refine blk_put (cs := #[.int .i64 a0_0, .int .i64 a0_1, .int .i64 0, .int .i64 0, .string (⟨#[]⟩ : ByteArray), .string (⟨#[]⟩ : ByteArray), .slice none 0 0]) ?_ 2 _ rfl; (with_reducible repeat (first | refine blk_drewN ?_ _ | refine blk_drew ?_ | refine blk_alloc ?_ _)); exact BK268.out)) (below_size bb_)); replace BK266 := Aside0.mk (blk_below (g := gb266) (o := .cells #[.int .i64 a0_0, .int .i64 a0_1, .int .i64 a0_2, .int .i64 a0_3, .string a0_4, .string a0_5, .slice A0_6 l0_6.length c0_6] 48 (0, 0)) (bf4_ NB266_268 (bkx_ BK266.out)) hb); replace BK267 := Aside0.mk (blk_below (g := gb267) (o := .cells #[.int .i64 0, .int .i64 0, .int .i64 0, .int .i64 0, .string (⟨#[]⟩ : ByteArray), .string (⟨#[]⟩ : ByteArray), .slice none 0 0] 55 (0, 0)) (bf4_ NB267_268 (bkx_ BK267.out)) hb); replace BK268 := Aside0.mk (blk_below (g := gb268) (o := .cells #[.int .i64 a0_0, .int .i64 a0_1, .int .i64 t269, .int .i64 t270, .string t271, .string a0_5, .slice none 0 0] 55 (0, 0)) (by (with_reducible repeat (first | refine blk_drewN ?_ _ | refine blk_drew ?_ | refine blk_alloc ?_ _)); refine blk_put (cs := #[.int .i64 a0_0, .int .i64 a0_1, .int .i64 t269, .int .i64 t270, .string t271, .string (⟨#[]⟩ : ByteArray), .slice none 0 0]) ?_ 5 _ rfl; (with_reducible repeat (first | refine blk_drewN ?_ _ | refine blk_drew ?_ | refine blk_alloc ?_ _)); refine blk_put (cs := #[.int .i64 a0_0, .int .i64 a0_1, .int .i64 t269, .int .i64 t270, .string (⟨#[]⟩ : ByteArray), .string (⟨#[]⟩ : ByteArray), .slice none 0 0]) ?_ 4 _ rfl; (with_reducible repeat (first | refine blk_drewN ?_ _ | refine blk_drew ?_ | refine blk_alloc ?_ _)); refine blk_put (cs := #[.int .i64 a0_0, .int .i64 a0_1, .int .i64 t269, .int .i64 0, .string (⟨#[]⟩ : ByteArray), .string (⟨#[]⟩ : ByteArray), .slice none 0 0]) ?_ 3 _ rfl; (with_reducible repeat (first | refine blk_drewN ?_ _ | refine blk_drew ?_ | refine blk_alloc ?_ _)); refine blk_put (cs := #[.int .i64 a0_0, .int .i64 a0_1, .int .i64 0, .int .i64 0, .string (⟨#[]⟩ : ByteArray), .string (⟨#[]⟩ : ByteArray), .slice none 0 0]) ?_ 2 _ rfl; (with_reducible repeat (first | refine blk_drewN ?_ _ | refine blk_drew ?_ | refine blk_alloc ?_ _)); exact BK268.out) hb); replace HB := bs_ hb; (try clear hb); (try clear hb2); (try clear hk); (try clear hi); (try clear ho0); obtain ⟨Ao16, co16, eo16⟩ := Kd.R_slice HO274.out; subst eo16; obtain ⟨hcz17_0, hcz17_1, hcz17_2, hcz17_3, hcz17_4, hcz17_5, hcz17_6, hfz17_0, hfz17_1, hfz17_2, hfz17_3, hfz17_4, hfz17_5, hfz17_6⟩ := b7_ BK268; obtain ⟨hcz18_0, hcz18_1, hcz18_2, hcz18_3, hcz18_4, hcz18_5, hcz18_6, hfz18_0, hfz18_1, hfz18_2, hfz18_3, hfz18_4, hfz18_5, hfz18_6⟩ := b7_ BK267))
  refine bodyPost_ret (results_cell_row rfl _ _ gb267 55 #[.int .i64 a0_0, .int .i64 a0_1, .int .i64 t269, .int .i64 t270, .string t271, .string a0_5, .slice Ao16 t272.length co16] (0, 0) _ rfl (by (with_reducible repeat (first | refine blk_drewN ?_ _ | refine blk_drew ?_ | refine blk_alloc ?_ _)); refine blk_put (cs := #[.int .i64 a0_0, .int .i64 a0_1, .int .i64 t269, .int .i64 t270, .string t271, .string a0_5, .slice none 0 0]) ?_ 6 _ rfl; (with_reducible repeat (first | refine blk_drewN ?_ _ | refine blk_drew ?_ | refine blk_alloc ?_ _)); refine blk_put (cs := #[.int .i64 a0_0, .int .i64 a0_1, .int .i64 t269, .int .i64 t270, .string t271, .string (⟨#[]⟩ : ByteArray), .slice none 0 0]) ?_ 5 _ rfl; (with_reducible repeat (first | refine blk_drewN ?_ _ | refine blk_drew ?_ | refine blk_alloc ?_ _)); refine blk_put (cs := #[.int .i64 a0_0, .int .i64 a0_1, .int .i64 t269, .int .i64 t270, .string (⟨#[]⟩ : ByteArray), .string (⟨#[]⟩ : ByteArray), .slice none 0 0]) ?_ 4 _ rfl; (with_reducible repeat (first | refine blk_drewN ?_ _ | refine blk_drew ?_ | refine blk_alloc ?_ _)); refine blk_put (cs := #[.int .i64 a0_0, .int .i64 a0_1, .int .i64 t269, .int .i64 0, .string (⟨#[]⟩ : ByteArray), .string (⟨#[]⟩ : ByteArray), .slice none 0 0]) ?_ 3 _ rfl; (with_reducible repeat (first | refine blk_drewN ?_ _ | refine blk_drew ?_ | refine blk_alloc ?_ _)); refine blk_put (cs := #[.int .i64 a0_0, .int .i64 a0_1, .int .i64 0, .int .i64 0, .string (⟨#[]⟩ : ByteArray), .string (⟨#[]⟩ : ByteArray), .slice none 0 0]) ?_ 2 _ rfl; (with_reducible repeat (first | refine blk_drewN ?_ _ | refine blk_drew ?_ | refine blk_alloc ?_ _)); refine blk_put (cs := #[.int .i64 a0_0, .int .i64 0, .int .i64 0, .int .i64 0, .string (⟨#[]⟩ : ByteArray), .string (⟨#[]⟩ : ByteArray), .slice none 0 0]) ?_ 1 _ rfl; (with_reducible repeat (first | refine blk_drewN ?_ _ | refine blk_drew ?_ | refine blk_alloc ?_ _)); refine blk_put (cs := #[.int .i64 0, .int .i64 0, .int .i64 0, .int .i64 0, .string (⟨#[]⟩ : ByteArray), .string (⟨#[]⟩ : ByteArray), .slice none 0 0]) ?_ 0 _ rfl; (with_reducible repeat (first | refine blk_drewN ?_ _ | refine blk_drew ?_ | refine blk_alloc ?_ _)); refine blk_far ?_ NB267_268.out _; (with_reducible repeat (first | refine blk_drewN ?_ _ | refine blk_drew ?_ | refine blk_alloc ?_ _)); exact BK267.out) Try.underlying55 rfl (by kernel_rfl)) rfl ?_
  exact ⟨_, by first | rfl | (simp [errW_none, errW_some] <;> rfl) | (simp [*, errW_none, errW_some] <;> rfl), by (with_reducible repeat (first | apply Kd.R_alloc | apply Kd.R_drewN | apply Kd.R_drew)); exact Kd.R_mono (Kd.R_far (p := ⟨gb267, 6, none⟩) (Kd.R_far (p := ⟨gb267, 5, none⟩) (Kd.R_far (p := ⟨gb267, 4, none⟩) (Kd.R_far (p := ⟨gb267, 3, none⟩) (Kd.R_far (p := ⟨gb267, 2, none⟩) (Kd.R_far (p := ⟨gb267, 1, none⟩) (Kd.R_far (p := ⟨gb267, 0, none⟩) (Kd.R_far (p := ⟨gb268, 6, none⟩) (Kd.R_mono (Kd.R_mono HO274.out (fun k_ hk => (⟨hk, hk.2⟩ : _ ∧ k_ ≠ gb268))) (fun k_ hk => (⟨hk, hk.1.1.2⟩ : _ ∧ k_ ≠ gb267))) (fun _ hk => hk.1.2) (.slice Ao16 t272.length co16)) (fun _ hk => hk.2) (.int .i64 a0_0)) (fun _ hk => hk.2) (.int .i64 a0_1)) (fun _ hk => hk.2) (.int .i64 t269)) (fun _ hk => hk.2) (.int .i64 t270)) (fun _ hk => hk.2) (.string t271)) (fun _ hk => hk.2) (.string a0_5)) (fun _ hk => hk.2) (.slice Ao16 t272.length co16)) (fun _ hk => trivial), by repeat (first | (with_reducible first | exact HB.out | apply below_alloc | apply pw_below_drewN | apply below_drew1 | refine below_set ?_ GE266.out | refine below_set ?_ GE267.out | refine below_set ?_ GE268.out) | exact HB.out)⟩

end Go.Proofs.Ythgdmdabdlgliaa.PFnExactEval
