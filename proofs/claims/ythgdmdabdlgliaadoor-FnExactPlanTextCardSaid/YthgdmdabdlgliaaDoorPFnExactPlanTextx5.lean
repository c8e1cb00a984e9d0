-- WRITTEN BY xprint.py, a program of this session over the kit's printer: by nobody's hand
-- PRESSED
import Derived.Test.YthgdmdabdlgliaaDoorPress
import Derived.Test.YthgdmdabdlgliaaDoorPFnExactPlanTextx0
import Derived.Test.YthgdmdabdlgliaaDoorPFnExactPlanTextx2
import Derived.Test.YthgdmdabdlgliaaDoorPFnExactPlanTextx4
namespace Go.Proofs.YthgdmdabdlgliaaDoor.PFnExactPlanText
open Go.RowKit Go.Proofs.YthgdmdabdlgliaaDoorW.PrintWords Go.Proofs.YthgdmdabdlgliaaDoorW.PrintLast Go.Proofs.YthgdmdabdlgliaaDoorW.PrintMore
set_option linter.unusedVariables false
set_option linter.unusedSimpArgs false

/-! ### spec_l03Text: function 45 -/
def spec_l03Text.f : Nat → Int → Int → Int → Int → ByteArray → ByteArray → List (S32) → Option (ByteArray)
 | 0, _, _, _, _, _, _, _ => none
 | k + 1, a0_0, a0_1, a0_2, a0_3, a0_4, a0_5, l0_6 => if a0_0 = 0 then ((spec_DecText.f k a0_1).bind fun t132 => (if 1 + t132.size ≤ 9223372036854775807 then (some ((⟨#[99]⟩ : ByteArray) ++ t132)) else (none))) else (if a0_0 = 1 then ((spec_ValueText.f k a0_2 a0_3 a0_4).bind fun t133 => (some t133)) else (if a0_0 = 2 then (if 0 < (l0_6.length : Int) then ((spec_l03Text.f k ((rd_T32 l0_6 0).f0) ((rd_T32 l0_6 0).f1) ((rd_T32 l0_6 0).f2.f0) ((rd_T32 l0_6 0).f2.f1) ((rd_T32 l0_6 0).f2.f2) ((rd_T32 l0_6 0).f3) ((rd_T32 l0_6 0).f4)).bind fun t135 => (if 1 + t135.size ≤ 9223372036854775807 then (if ((⟨#[40]⟩ : ByteArray) ++ t135).size + 1 ≤ 9223372036854775807 then (if (((⟨#[40]⟩ : ByteArray) ++ t135) ++ (⟨#[32]⟩ : ByteArray)).size + a0_5.size ≤ 9223372036854775807 then (if ((((⟨#[40]⟩ : ByteArray) ++ t135) ++ (⟨#[32]⟩ : ByteArray)) ++ a0_5).size + 1 ≤ 9223372036854775807 then (if 1 < (l0_6.length : Int) then ((spec_l03Text.f k ((rd_T32 l0_6 1).f0) ((rd_T32 l0_6 1).f1) ((rd_T32 l0_6 1).f2.f0) ((rd_T32 l0_6 1).f2.f1) ((rd_T32 l0_6 1).f2.f2) ((rd_T32 l0_6 1).f3) ((rd_T32 l0_6 1).f4)).bind fun t137 => (if (((((⟨#[40]⟩ : ByteArray) ++ t135) ++ (⟨#[32]⟩ : ByteArray)) ++ a0_5) ++ (⟨#[32]⟩ : ByteArray)).size + t137.size ≤ 9223372036854775807 then (if ((((((⟨#[40]⟩ : ByteArray) ++ t135) ++ (⟨#[32]⟩ : ByteArray)) ++ a0_5) ++ (⟨#[32]⟩ : ByteArray)) ++ t137).size + 1 ≤ 9223372036854775807 then (some (((((((⟨#[40]⟩ : ByteArray) ++ t135) ++ (⟨#[32]⟩ : ByteArray)) ++ a0_5) ++ (⟨#[32]⟩ : ByteArray)) ++ t137) ++ (⟨#[41]⟩ : ByteArray))) else (none)) else (none))) else (none)) else (none)) else (none)) else (none)) else (none))) else (none)) else (if a0_0 = 3 then (if 0 < (l0_6.length : Int) then ((spec_l03Text.f k ((rd_T32 l0_6 0).f0) ((rd_T32 l0_6 0).f1) ((rd_T32 l0_6 0).f2.f0) ((rd_T32 l0_6 0).f2.f1) ((rd_T32 l0_6 0).f2.f2) ((rd_T32 l0_6 0).f3) ((rd_T32 l0_6 0).f4)).bind fun t139 => (if 4 + t139.size ≤ 9223372036854775807 then (if ((⟨#[110, 111, 116, 40]⟩ : ByteArray) ++ t139).size + 1 ≤ 9223372036854775807 then (some (((⟨#[110, 111, 116, 40]⟩ : ByteArray) ++ t139) ++ (⟨#[41]⟩ : ByteArray))) else (none)) else (none))) else (none)) else (if 0 < (l0_6.length : Int) then ((spec_l03Text.f k ((rd_T32 l0_6 0).f0) ((rd_T32 l0_6 0).f1) ((rd_T32 l0_6 0).f2.f0) ((rd_T32 l0_6 0).f2.f1) ((rd_T32 l0_6 0).f2.f2) ((rd_T32 l0_6 0).f3) ((rd_T32 l0_6 0).f4)).bind fun t141 => (if 7 + t141.size ≤ 9223372036854775807 then (if ((⟨#[105, 115, 110, 117, 108, 108, 40]⟩ : ByteArray) ++ t141).size + 1 ≤ 9223372036854775807 then (some (((⟨#[105, 115, 110, 117, 108, 108, 40]⟩ : ByteArray) ++ t141) ++ (⟨#[41]⟩ : ByteArray))) else (none)) else (none))) else (none)))))
def spec_l03Text.T7 : Bool × List (List Nat × List Nat) := (true, [([], []), ([0], [0]), ([1], [1]), ([2], [2]), ([3], [3]), ([4], [4]), ([5], [5]), ([], []), ([7], [7]), ([6, 8], [6, 8]), ([9], [9]), ([], []), ([11], [11]), ([12], [12]), ([13], [13]), ([14, 4], [14]), ([10, 15], [10, 15]), ([16], [16]), ([17, 15, 0, 1, 2, 3, 4, 5, 6, 7, 8, 9, 10, 11, 12, 13, 14, 15, 16, 17], [17])])
def spec_l03Text.B7 : List Nat := [0, 1, 3, 7, 15, 31, 63, 0, 128, 511, 1023, 0, 2048, 6144, 14336, 30751, 65535, 131071, 262143]
theorem spec_l03Text.tab7 : rtab .any (opsOf Tryd.f45 7) = spec_l03Text.T7 := by kernel_rfl
theorem spec_l03Text.bits7 : waitsOk spec_l03Text.T7.2 spec_l03Text.B7 = true := by kernel_rfl
set_option maxHeartbeats 8000000 in
set_option maxRecDepth 100000 in
theorem spec_l03Text.calls (k : Nat) : ∀ (a0_0 : Int) (a0_1 : Int) (a0_2 : Int) (a0_3 : Int) (a0_4 : ByteArray) (a0_5 : ByteArray) (A0_6 : Option Addr) (c0_6 : Nat) (l0_6 : List (S32)) (r : ByteArray) (w : World) (hr0_6 : Kd.C k32 w A0_6 l0_6.length l0_6) (hc0_6 : l0_6.length ≤ c0_6) (h : spec_l03Text.f k a0_0 a0_1 a0_2 a0_3 a0_4 a0_5 l0_6 = some r),
  Calls Tryd.prog 45 #[.agg #[.int .i64 a0_0, .int .i64 a0_1, .int .i64 a0_2, .int .i64 a0_3, .string a0_4, .string a0_5, .slice A0_6 l0_6.length c0_6]] w fun e w' => e = .returned (.string r) ∧ Below w.heap.size w w' := by
 induction k using Nat.strongRecOn with
 | _ k ih =>
 intro a0_0 a0_1 a0_2 a0_3 a0_4 a0_5 A0_6 c0_6 l0_6 r w hr0_6 hc0_6 h
 cases k with
 | zero => exact absurd h (by simp [spec_l03Text.f])
 | succ k =>
 simp only [spec_l03Text.f] at h
 have hu32 := Tryd.underlying32
 have hu29 := Tryd.underlying29
 have HR0_6 := Aside0.mk hr0_6
 have HC0_6 := Aside0.mk hc0_6
 clear hr0_6 hc0_6
 have HB := Aside0.mk (Below.refl w.heap.size w)
 have H : (if a0_0 = 0 then ((spec_DecText.f k a0_1).bind fun t132 => (if 1 + t132.size ≤ 9223372036854775807 then (some ((⟨#[99]⟩ : ByteArray) ++ t132)) else (none))) else (if a0_0 = 1 then ((spec_ValueText.f k a0_2 a0_3 a0_4).bind fun t133 => (some t133)) else (if a0_0 = 2 then (if 0 < (l0_6.length : Int) then ((spec_l03Text.f k ((rd_T32 l0_6 0).f0) ((rd_T32 l0_6 0).f1) ((rd_T32 l0_6 0).f2.f0) ((rd_T32 l0_6 0).f2.f1) ((rd_T32 l0_6 0).f2.f2) ((rd_T32 l0_6 0).f3) ((rd_T32 l0_6 0).f4)).bind fun t135 => (if 1 + t135.size ≤ 9223372036854775807 then (if ((⟨#[40]⟩ : ByteArray) ++ t135).size + 1 ≤ 9223372036854775807 then (if (((⟨#[40]⟩ : ByteArray) ++ t135) ++ (⟨#[32]⟩ : ByteArray)).size + a0_5.size ≤ 9223372036854775807 then (if ((((⟨#[40]⟩ : ByteArray) ++ t135) ++ (⟨#[32]⟩ : ByteArray)) ++ a0_5).size + 1 ≤ 9223372036854775807 then (if 1 < (l0_6.length : Int) then ((spec_l03Text.f k ((rd_T32 l0_6 1).f0) ((rd_T32 l0_6 1).f1) ((rd_T32 l0_6 1).f2.f0) ((rd_T32 l0_6 1).f2.f1) ((rd_T32 l0_6 1).f2.f2) ((rd_T32 l0_6 1).f3) ((rd_T32 l0_6 1).f4)).bind fun t137 => (if (((((⟨#[40]⟩ : ByteArray) ++ t135) ++ (⟨#[32]⟩ : ByteArray)) ++ a0_5) ++ (⟨#[32]⟩ : ByteArray)).size + t137.size ≤ 9223372036854775807 then (if ((((((⟨#[40]⟩ : ByteArray) ++ t135) ++ (⟨#[32]⟩ : ByteArray)) ++ a0_5) ++ (⟨#[32]⟩ : ByteArray)) ++ t137).size + 1 ≤ 9223372036854775807 then (some (((((((⟨#[40]⟩ : ByteArray) ++ t135) ++ (⟨#[32]⟩ : ByteArray)) ++ a0_5) ++ (⟨#[32]⟩ : ByteArray)) ++ t137) ++ (⟨#[41]⟩ : ByteArray))) else (none)) else (none))) else (none)) else (none)) else (none)) else (none)) else (none))) else (none)) else (if a0_0 = 3 then (if 0 < (l0_6.length : Int) then ((spec_l03Text.f k ((rd_T32 l0_6 0).f0) ((rd_T32 l0_6 0).f1) ((rd_T32 l0_6 0).f2.f0) ((rd_T32 l0_6 0).f2.f1) ((rd_T32 l0_6 0).f2.f2) ((rd_T32 l0_6 0).f3) ((rd_T32 l0_6 0).f4)).bind fun t139 => (if 4 + t139.size ≤ 9223372036854775807 then (if ((⟨#[110, 111, 116, 40]⟩ : ByteArray) ++ t139).size + 1 ≤ 9223372036854775807 then (some (((⟨#[110, 111, 116, 40]⟩ : ByteArray) ++ t139) ++ (⟨#[41]⟩ : ByteArray))) else (none)) else (none))) else (none)) else (if 0 < (l0_6.length : Int) then ((spec_l03Text.f k ((rd_T32 l0_6 0).f0) ((rd_T32 l0_6 0).f1) ((rd_T32 l0_6 0).f2.f0) ((rd_T32 l0_6 0).f2.f1) ((rd_T32 l0_6 0).f2.f2) ((rd_T32 l0_6 0).f3) ((rd_T32 l0_6 0).f4)).bind fun t141 => (if 7 + t141.size ≤ 9223372036854775807 then (if ((⟨#[105, 115, 110, 117, 108, 108, 40]⟩ : ByteArray) ++ t141).size + 1 ≤ 9223372036854775807 then (some (((⟨#[105, 115, 110, 117, 108, 108, 40]⟩ : ByteArray) ++ t141) ++ (⟨#[41]⟩ : ByteArray))) else (none)) else (none))) else (none)))))) = some r := h
 clear h
 by_cases c2 : a0_0 = 0
 ·rw [if_pos c2] at H
  have c2b0 : (a0_0 == 0) = true := beq_iff_eq.mpr c2
  have c2b1 : (a0_0 != 0) = false := bne_eq_false_iff_eq.mpr c2
  clear c2
  replace H := Option.bind_eq_some_iff.mp H
  obtain ⟨t132, A30, H⟩ := H
  replace H : (if 1 + t132.size ≤ 9223372036854775807 then (some ((⟨#[99]⟩ : ByteArray) ++ t132)) else (none)) = some r := H
  have A3 := Aside0.mk A30
  clear A30
  by_cases c4 : 1 + t132.size ≤ 9223372036854775807
  ·rw [if_pos c4] at H
   have c4b0 := eq_true c4
   have c4b1 : decide (1 + t132.size ≤ 9223372036854775807) = true := decide_eq_true c4
   try have c4b2 : (9223372036854775807 < 1 + t132.size) = False := eq_false (Nat.not_lt.2 c4)
   obtain rfl := Option.some.inj H
   go_enter Tryd.func45, Tryd.ntmps45
   go_wp2_with (first | ((with_reducible refine gate_dst (N := 1) rfl ?_); refine bx_ 1 #[.int .i64 a0_0, .int .i64 a0_1, .int .i64 a0_2, .int .i64 a0_3, .string a0_4, .string a0_5, .slice A0_6 l0_6.length c0_6] 32 ?_; intro gb131 hg w5 hbox hb; have BK131 := Aside0.mk (hbox); have GW131 := gw_ hg; have GE131 := gw_ hg; replace HB := bs_ hb; clear hb hbox hg; obtain ⟨hcz6_0, hcz6_1, hcz6_2, hcz6_3, hcz6_4, hcz6_5, hcz6_6, hfz6_0, hfz6_1, hfz6_2, hfz6_3, hfz6_4, hfz6_5, hfz6_6⟩ := b7_ BK131) | ((with_reducible refine gate_callee (f := 31) rfl ?_); refine gsL_ (some 9) Tryd.func31 #[.int .i64 a0_1] ?_; (with_reducible refine (spec_DecText.calls k a0_1 t132 _ A3.out).mono ?_); rintro e w' ⟨rfl, ⟨nd, rfl⟩⟩; refine ⟨_, rfl, ?_⟩))
   go_ret
   exact ⟨er_, bb_⟩
  ·rw [if_neg c4] at H
   exact absurd H (by simp)
 ·rw [if_neg c2] at H
  have c2b0 : (a0_0 == 0) = false := beq_eq_false_iff_ne.mpr c2
  have c2b1 : (a0_0 != 0) = true := bne_iff_ne.mpr c2
  by_cases c7 : a0_0 = 1
  ·rw [if_pos c7] at H
   have c7b0 : (a0_0 == 1) = true := beq_iff_eq.mpr c7
   have c7b1 : (a0_0 != 1) = false := bne_eq_false_iff_eq.mpr c7
   clear c7
   replace H := Option.bind_eq_some_iff.mp H
   obtain ⟨t133, A80, H⟩ := H
   replace H : (some t133) = some r := H
   have A8 := Aside0.mk A80
   clear A80
   obtain rfl := Option.some.inj H
   go_enter Tryd.func45, Tryd.ntmps45
   go_wp2_with (first | ((with_reducible refine gate_dst (N := 1) rfl ?_); refine bx_ 1 #[.int .i64 a0_0, .int .i64 a0_1, .int .i64 a0_2, .int .i64 a0_3, .string a0_4, .string a0_5, .slice A0_6 l0_6.length c0_6] 32 ?_; intro gb131 hg w9 hbox hb; have BK131 := Aside0.mk (hbox); have GW131 := gw_ hg; have GE131 := gw_ hg; replace HB := bs_ hb; clear hb hbox hg; obtain ⟨hcz10_0, hcz10_1, hcz10_2, hcz10_3, hcz10_4, hcz10_5, hcz10_6, hfz10_0, hfz10_1, hfz10_2, hfz10_3, hfz10_4, hfz10_5, hfz10_6⟩ := b7_ BK131) | ((with_reducible refine gate_callee (f := 27) rfl ?_); refine gsL_ (some 15) Tryd.func27 #[.agg #[.int .i64 a0_2, .int .i64 a0_3, .string a0_4]] ?_; (with_reducible refine (spec_ValueText.calls k a0_2 a0_3 a0_4 t133 _ A8.out).mono ?_); rintro e w11 ⟨rfl, hb⟩; refine ⟨_, rfl, ?_⟩; replace BK131 := bkb_ BK131 hb; replace HB := bs_ hb; (try clear hb); (try clear hb2); (try clear hk); (try clear hi)))
   go_ret
   exact ⟨er_, bb_⟩
  ·rw [if_neg c7] at H
   have c7b0 : (a0_0 == 1) = false := beq_eq_false_iff_ne.mpr c7
   have c7b1 : (a0_0 != 1) = true := bne_iff_ne.mpr c7
   by_cases c12 : a0_0 = 2
   ·rw [if_pos c12] at H
    have c12b0 : (a0_0 == 2) = true := beq_iff_eq.mpr c12
    have c12b1 : (a0_0 != 2) = false := bne_eq_false_iff_eq.mpr c12
    clear c12
    by_cases c13 : 0 < (l0_6.length : Int)
    ·rw [if_pos c13] at H
     have c13b0 : decide (0 < (l0_6.length : Int)) = true := decide_eq_true c13
     have c13b1 : decide (0 < l0_6.length) = true := decide_eq_true (by omega)
     clear c13
     replace H := Option.bind_eq_some_iff.mp H
     obtain ⟨t135, A140, H⟩ := H
     replace H : (if 1 + t135.size ≤ 9223372036854775807 then (if ((⟨#[40]⟩ : ByteArray) ++ t135).size + 1 ≤ 9223372036854775807 then (if (((⟨#[40]⟩ : ByteArray) ++ t135) ++ (⟨#[32]⟩ : ByteArray)).size + a0_5.size ≤ 9223372036854775807 then (if ((((⟨#[40]⟩ : ByteArray) ++ t135) ++ (⟨#[32]⟩ : ByteArray)) ++ a0_5).size + 1 ≤ 9223372036854775807 then (if 1 < (l0_6.length : Int) then ((spec_l03Text.f k ((rd_T32 l0_6 1).f0) ((rd_T32 l0_6 1).f1) ((rd_T32 l0_6 1).f2.f0) ((rd_T32 l0_6 1).f2.f1) ((rd_T32 l0_6 1).f2.f2) ((rd_T32 l0_6 1).f3) ((rd_T32 l0_6 1).f4)).bind fun t137 => (if (((((⟨#[40]⟩ : ByteArray) ++ t135) ++ (⟨#[32]⟩ : ByteArray)) ++ a0_5) ++ (⟨#[32]⟩ : ByteArray)).size + t137.size ≤ 9223372036854775807 then (if ((((((⟨#[40]⟩ : ByteArray) ++ t135) ++ (⟨#[32]⟩ : ByteArray)) ++ a0_5) ++ (⟨#[32]⟩ : ByteArray)) ++ t137).size + 1 ≤ 9223372036854775807 then (some (((((((⟨#[40]⟩ : ByteArray) ++ t135) ++ (⟨#[32]⟩ : ByteArray)) ++ a0_5) ++ (⟨#[32]⟩ : ByteArray)) ++ t137) ++ (⟨#[41]⟩ : ByteArray))) else (none)) else (none))) else (none)) else (none)) else (none)) else (none)) else (none)) = some r := H
     have A14 := Aside0.mk A140
     clear A140
     by_cases c15 : 1 + t135.size ≤ 9223372036854775807
     ·rw [if_pos c15] at H
      have c15b0 := eq_true c15
      have c15b1 : decide (1 + t135.size ≤ 9223372036854775807) = true := decide_eq_true c15
      try have c15b2 : (9223372036854775807 < 1 + t135.size) = False := eq_false (Nat.not_lt.2 c15)
      by_cases c16 : ((⟨#[40]⟩ : ByteArray) ++ t135).size + 1 ≤ 9223372036854775807
      ·rw [if_pos c16] at H
       have c16b0 := eq_true c16
       have c16b1 : decide (((⟨#[40]⟩ : ByteArray) ++ t135).size + 1 ≤ 9223372036854775807) = true := decide_eq_true c16
       try have c16b2 : (9223372036854775807 < ((⟨#[40]⟩ : ByteArray) ++ t135).size + 1) = False := eq_false (Nat.not_lt.2 c16)
       (try (have c16b0z := c16b0; simp only [ByteArray.size_append] at c16b0z))
       (try (have c16b1z := c16b1; simp only [ByteArray.size_append] at c16b1z))
       (try (have c16b2z := c16b2; simp only [ByteArray.size_append] at c16b2z))
       (try (have c16b2y : (9223372036854775807 < 1 + t135.size + 1) = False := by (apply eq_false; have hq_ := c16; simp only [ByteArray.size_append, ByteArray.size_extract] at hq_; have hl0_ : (⟨#[40]⟩ : ByteArray).size = 1 := rfl; omega)))
       by_cases c17 : (((⟨#[40]⟩ : ByteArray) ++ t135) ++ (⟨#[32]⟩ : ByteArray)).size + a0_5.size ≤ 9223372036854775807
       ·rw [if_pos c17] at H
        have c17b0 := eq_true c17
        have c17b1 : decide ((((⟨#[40]⟩ : ByteArray) ++ t135) ++ (⟨#[32]⟩ : ByteArray)).size + a0_5.size ≤ 9223372036854775807) = true := decide_eq_true c17
        try have c17b2 : (9223372036854775807 < (((⟨#[40]⟩ : ByteArray) ++ t135) ++ (⟨#[32]⟩ : ByteArray)).size + a0_5.size) = False := eq_false (Nat.not_lt.2 c17)
        (try (have c17b0z := c17b0; simp only [ByteArray.size_append] at c17b0z))
        (try (have c17b1z := c17b1; simp only [ByteArray.size_append] at c17b1z))
        (try (have c17b2z := c17b2; simp only [ByteArray.size_append] at c17b2z))
        (try (have c17b2y : (9223372036854775807 < 1 + t135.size + 1 + a0_5.size) = False := by (apply eq_false; have hq_ := c17; simp only [ByteArray.size_append, ByteArray.size_extract] at hq_; have hl0_ : (⟨#[40]⟩ : ByteArray).size = 1 := rfl; have hl1_ : (⟨#[32]⟩ : ByteArray).size = 1 := rfl; omega)))
        by_cases c18 : ((((⟨#[40]⟩ : ByteArray) ++ t135) ++ (⟨#[32]⟩ : ByteArray)) ++ a0_5).size + 1 ≤ 9223372036854775807
        ·rw [if_pos c18] at H
         have c18b0 := eq_true c18
         have c18b1 : decide (((((⟨#[40]⟩ : ByteArray) ++ t135) ++ (⟨#[32]⟩ : ByteArray)) ++ a0_5).size + 1 ≤ 9223372036854775807) = true := decide_eq_true c18
         try have c18b2 : (9223372036854775807 < ((((⟨#[40]⟩ : ByteArray) ++ t135) ++ (⟨#[32]⟩ : ByteArray)) ++ a0_5).size + 1) = False := eq_false (Nat.not_lt.2 c18)
         (try (have c18b0z := c18b0; simp only [ByteArray.size_append] at c18b0z))
         (try (have c18b1z := c18b1; simp only [ByteArray.size_append] at c18b1z))
         (try (have c18b2z := c18b2; simp only [ByteArray.size_append] at c18b2z))
         (try (have c18b2y : (9223372036854775807 < 1 + t135.size + 1 + a0_5.size + 1) = False := by (apply eq_false; have hq_ := c18; simp only [ByteArray.size_append, ByteArray.size_extract] at hq_; have hl0_ : (⟨#[40]⟩ : ByteArray).size = 1 := rfl; have hl1_ : (⟨#[32]⟩ : ByteArray).size = 1 := rfl; omega)))
         by_cases c19 : 1 < (l0_6.length : Int)
         ·rw [if_pos c19] at H
          have c19b0 : decide (1 < (l0_6.length : Int)) = true := decide_eq_true c19
          have c19b1 : decide (1 < l0_6.length) = true := decide_eq_true (by omega)
          clear c19
          replace H := Option.bind_eq_some_iff.mp H
          obtain ⟨t137, A200, H⟩ := H
          replace H : (if (((((⟨#[40]⟩ : ByteArray) ++ t135) ++ (⟨#[32]⟩ : ByteArray)) ++ a0_5) ++ (⟨#[32]⟩ : ByteArray)).size + t137.size ≤ 9223372036854775807 then (if ((((((⟨#[40]⟩ : ByteArray) ++ t135) ++ (⟨#[32]⟩ : ByteArray)) ++ a0_5) ++ (⟨#[32]⟩ : ByteArray)) ++ t137).size + 1 ≤ 9223372036854775807 then (some (((((((⟨#[40]⟩ : ByteArray) ++ t135) ++ (⟨#[32]⟩ : ByteArray)) ++ a0_5) ++ (⟨#[32]⟩ : ByteArray)) ++ t137) ++ (⟨#[41]⟩ : ByteArray))) else (none)) else (none)) = some r := H
          have A20 := Aside0.mk A200
          clear A200
          by_cases c21 : (((((⟨#[40]⟩ : ByteArray) ++ t135) ++ (⟨#[32]⟩ : ByteArray)) ++ a0_5) ++ (⟨#[32]⟩ : ByteArray)).size + t137.size ≤ 9223372036854775807
          ·rw [if_pos c21] at H
           have c21b0 := eq_true c21
           have c21b1 : decide ((((((⟨#[40]⟩ : ByteArray) ++ t135) ++ (⟨#[32]⟩ : ByteArray)) ++ a0_5) ++ (⟨#[32]⟩ : ByteArray)).size + t137.size ≤ 9223372036854775807) = true := decide_eq_true c21
           try have c21b2 : (9223372036854775807 < (((((⟨#[40]⟩ : ByteArray) ++ t135) ++ (⟨#[32]⟩ : ByteArray)) ++ a0_5) ++ (⟨#[32]⟩ : ByteArray)).size + t137.size) = False := eq_false (Nat.not_lt.2 c21)
           (try (have c21b0z := c21b0; simp only [ByteArray.size_append] at c21b0z))
           (try (have c21b1z := c21b1; simp only [ByteArray.size_append] at c21b1z))
           (try (have c21b2z := c21b2; simp only [ByteArray.size_append] at c21b2z))
           (try (have c21b2y : (9223372036854775807 < 1 + t135.size + 1 + a0_5.size + 1 + t137.size) = False := by (apply eq_false; have hq_ := c21; simp only [ByteArray.size_append, ByteArray.size_extract] at hq_; have hl0_ : (⟨#[40]⟩ : ByteArray).size = 1 := rfl; have hl1_ : (⟨#[32]⟩ : ByteArray).size = 1 := rfl; omega)))
           by_cases c22 : ((((((⟨#[40]⟩ : ByteArray) ++ t135) ++ (⟨#[32]⟩ : ByteArray)) ++ a0_5) ++ (⟨#[32]⟩ : ByteArray)) ++ t137).size + 1 ≤ 9223372036854775807
           ·rw [if_pos c22] at H
            have c22b0 := eq_true c22
            have c22b1 : decide (((((((⟨#[40]⟩ : ByteArray) ++ t135) ++ (⟨#[32]⟩ : ByteArray)) ++ a0_5) ++ (⟨#[32]⟩ : ByteArray)) ++ t137).size + 1 ≤ 9223372036854775807) = true := decide_eq_true c22
            try have c22b2 : (9223372036854775807 < ((((((⟨#[40]⟩ : ByteArray) ++ t135) ++ (⟨#[32]⟩ : ByteArray)) ++ a0_5) ++ (⟨#[32]⟩ : ByteArray)) ++ t137).size + 1) = False := eq_false (Nat.not_lt.2 c22)
            (try (have c22b0z := c22b0; simp only [ByteArray.size_append] at c22b0z))
            (try (have c22b1z := c22b1; simp only [ByteArray.size_append] at c22b1z))
            (try (have c22b2z := c22b2; simp only [ByteArray.size_append] at c22b2z))
            (try (have c22b2y : (9223372036854775807 < 1 + t135.size + 1 + a0_5.size + 1 + t137.size + 1) = False := by (apply eq_false; have hq_ := c22; simp only [ByteArray.size_append, ByteArray.size_extract] at hq_; have hl0_ : (⟨#[40]⟩ : ByteArray).size = 1 := rfl; have hl1_ : (⟨#[32]⟩ : ByteArray).size = 1 := rfl; omega)))
            obtain rfl := Option.some.inj H
            go_enter Tryd.func45, Tryd.ntmps45
            try go_wp2_with (first | ((with_reducible refine gate_dst (N := 1) rfl ?_); refine bx_ 1 #[.int .i64 a0_0, .int .i64 a0_1, .int .i64 a0_2, .int .i64 a0_3, .string a0_4, .string a0_5, .slice A0_6 l0_6.length c0_6] 32 ?_; intro gb131 hg w23 hbox hb; have BK131 := Aside0.mk (hbox); have GW131 := gw_ hg; have GE131 := gw_ hg; replace HB := bs_ hb; clear hb hbox hg; obtain ⟨hcz24_0, hcz24_1, hcz24_2, hcz24_3, hcz24_4, hcz24_5, hcz24_6, hfz24_0, hfz24_1, hfz24_2, hfz24_3, hfz24_4, hfz24_5, hfz24_6⟩ := b7_ BK131))
            replace BK131 := Aside0.mk (blk_drew BK131.out)
            replace HB := Aside0.mk (below_drew1 HB.out)
            have p134 : 0 ≤ (0 : Int) := (by omega)
            have q134 : 0 < (l0_6.length : Int) := of_decide_eq_true (by first | (with_reducible assumption) | assumption)
            obtain ⟨ad134, A134_6, c134_6, e134, hx134_0, hx134_1, hx134_2, hx134_3, hx134_4, hx134_5, hx134_6, hl134_6, hi134_6⟩ := at_T32 HR0_6.out 0 p134 q134
            have hw134_6 := hx134_6
            (try rw [show ((0 : Int)).toNat = 0 from rfl] at hw134_6)
            (try rw [show 0 * 7 = 0 from rfl] at hw134_6)
            (try rw [Addr.add_zero'] at hw134_6)
            have hw134_5 := hx134_5
            (try rw [show ((0 : Int)).toNat = 0 from rfl] at hw134_5)
            (try rw [show 0 * 7 = 0 from rfl] at hw134_5)
            (try rw [Addr.add_zero'] at hw134_5)
            have hw134_4 := hx134_4
            (try rw [show ((0 : Int)).toNat = 0 from rfl] at hw134_4)
            (try rw [show 0 * 7 = 0 from rfl] at hw134_4)
            (try rw [Addr.add_zero'] at hw134_4)
            have hw134_3 := hx134_3
            (try rw [show ((0 : Int)).toNat = 0 from rfl] at hw134_3)
            (try rw [show 0 * 7 = 0 from rfl] at hw134_3)
            (try rw [Addr.add_zero'] at hw134_3)
            have hw134_2 := hx134_2
            (try rw [show ((0 : Int)).toNat = 0 from rfl] at hw134_2)
            (try rw [show 0 * 7 = 0 from rfl] at hw134_2)
            (try rw [Addr.add_zero'] at hw134_2)
            have hw134_1 := hx134_1
            (try rw [show ((0 : Int)).toNat = 0 from rfl] at hw134_1)
            (try rw [show 0 * 7 = 0 from rfl] at hw134_1)
            (try rw [Addr.add_zero'] at hw134_1)
            have hw134_0 := hx134_0
            (try rw [show ((0 : Int)).toNat = 0 from rfl] at hw134_0)
            (try rw [show 0 * 7 = 0 from rfl] at hw134_0)
            (try rw [Addr.add_zero'] at hw134_0)
            cases e134
            have qi134 : (0 < l0_6.length) = True := eq_true (by omega)
            (try rw [show ((0 : Int)).toNat = 0 from rfl] at hx134_0)
            (try rw [show 0 * 7 = 0 from rfl] at hx134_0)
            (try rw [Addr.add_zero'] at hx134_0)
            (try rw [show ((0 : Int)).toNat = 0 from rfl] at hx134_1)
            (try rw [show 0 * 7 = 0 from rfl] at hx134_1)
            (try rw [Addr.add_zero'] at hx134_1)
            (try rw [show ((0 : Int)).toNat = 0 from rfl] at hx134_2)
            (try rw [show 0 * 7 = 0 from rfl] at hx134_2)
            (try rw [Addr.add_zero'] at hx134_2)
            (try rw [show ((0 : Int)).toNat = 0 from rfl] at hx134_3)
            (try rw [show 0 * 7 = 0 from rfl] at hx134_3)
            (try rw [Addr.add_zero'] at hx134_3)
            (try rw [show ((0 : Int)).toNat = 0 from rfl] at hx134_4)
            (try rw [show 0 * 7 = 0 from rfl] at hx134_4)
            (try rw [Addr.add_zero'] at hx134_4)
            (try rw [show ((0 : Int)).toNat = 0 from rfl] at hx134_5)
            (try rw [show 0 * 7 = 0 from rfl] at hx134_5)
            (try rw [Addr.add_zero'] at hx134_5)
            (try rw [show ((0 : Int)).toNat = 0 from rfl] at hx134_6)
            (try rw [show 0 * 7 = 0 from rfl] at hx134_6)
            (try rw [Addr.add_zero'] at hx134_6)
            replace hx134_0 := hb_ HB hx134_0
            replace hx134_1 := hb_ HB hx134_1
            replace hx134_2 := hb_ HB hx134_2
            replace hx134_3 := hb_ HB hx134_3
            replace hx134_4 := hb_ HB hx134_4
            replace hx134_5 := hb_ HB hx134_5
            replace hx134_6 := hb_ HB hx134_6
            have HR134_6 := Aside0.mk hi134_6
            have HC134_6 := Aside0.mk hl134_6
            clear hi134_6 hl134_6
            replace p134 := eq_true p134
            replace q134 := eq_true q134
            have p136 : 0 ≤ (1 : Int) := (by omega)
            have q136 : 1 < (l0_6.length : Int) := of_decide_eq_true (by first | (with_reducible assumption) | assumption)
            obtain ⟨ad136, A136_6, c136_6, e136, hx136_0, hx136_1, hx136_2, hx136_3, hx136_4, hx136_5, hx136_6, hl136_6, hi136_6⟩ := at_T32 HR0_6.out 1 p136 q136
            have hw136_6 := hx136_6
            (try rw [show ((1 : Int)).toNat = 1 from rfl] at hw136_6)
            (try rw [show 1 * 7 = 7 from rfl] at hw136_6)
            (try simp only [Nat.reduceMul, Nat.reduceEqDiff, Go.Addr.add, ↓reduceIte] at hw136_6)
            have hw136_5 := hx136_5
            (try rw [show ((1 : Int)).toNat = 1 from rfl] at hw136_5)
            (try rw [show 1 * 7 = 7 from rfl] at hw136_5)
            (try simp only [Nat.reduceMul, Nat.reduceEqDiff, Go.Addr.add, ↓reduceIte] at hw136_5)
            have hw136_4 := hx136_4
            (try rw [show ((1 : Int)).toNat = 1 from rfl] at hw136_4)
            (try rw [show 1 * 7 = 7 from rfl] at hw136_4)
            (try simp only [Nat.reduceMul, Nat.reduceEqDiff, Go.Addr.add, ↓reduceIte] at hw136_4)
            have hw136_3 := hx136_3
            (try rw [show ((1 : Int)).toNat = 1 from rfl] at hw136_3)
            (try rw [show 1 * 7 = 7 from rfl] at hw136_3)
            (try simp only [Nat.reduceMul, Nat.reduceEqDiff, Go.Addr.add, ↓reduceIte] at hw136_3)
            have hw136_2 := hx136_2
            (try rw [show ((1 : Int)).toNat = 1 from rfl] at hw136_2)
            (try rw [show 1 * 7 = 7 from rfl] at hw136_2)
            (try simp only [Nat.reduceMul, Nat.reduceEqDiff, Go.Addr.add, ↓reduceIte] at hw136_2)
            have hw136_1 := hx136_1
            (try rw [show ((1 : Int)).toNat = 1 from rfl] at hw136_1)
            (try rw [show 1 * 7 = 7 from rfl] at hw136_1)
            (try simp only [Nat.reduceMul, Nat.reduceEqDiff, Go.Addr.add, ↓reduceIte] at hw136_1)
            have hw136_0 := hx136_0
            (try rw [show ((1 : Int)).toNat = 1 from rfl] at hw136_0)
            (try rw [show 1 * 7 = 7 from rfl] at hw136_0)
            (try simp only [Nat.reduceMul, Nat.reduceEqDiff, Go.Addr.add, ↓reduceIte] at hw136_0)
            obtain rfl : ad134 = ad136 := (by injection e136)
            (try simp only [show (1 : Int).toNat = 1 from rfl, Nat.reduceMul, Nat.reduceEqDiff, Go.Addr.add, ↓reduceIte] at hx136_0)
            (try simp only [show (1 : Int).toNat = 1 from rfl, Nat.reduceMul, Nat.reduceEqDiff, Go.Addr.add, ↓reduceIte] at hx136_1)
            (try simp only [show (1 : Int).toNat = 1 from rfl, Nat.reduceMul, Nat.reduceEqDiff, Go.Addr.add, ↓reduceIte] at hx136_2)
            (try simp only [show (1 : Int).toNat = 1 from rfl, Nat.reduceMul, Nat.reduceEqDiff, Go.Addr.add, ↓reduceIte] at hx136_3)
            (try simp only [show (1 : Int).toNat = 1 from rfl, Nat.reduceMul, Nat.reduceEqDiff, Go.Addr.add, ↓reduceIte] at hx136_4)
            (try simp only [show (1 : Int).toNat = 1 from rfl, Nat.reduceMul, Nat.reduceEqDiff, Go.Addr.add, ↓reduceIte] at hx136_5)
            (try simp only [show (1 : Int).toNat = 1 from rfl, Nat.reduceMul, Nat.reduceEqDiff, Go.Addr.add, ↓reduceIte] at hx136_6)
            have qi136 : (1 < l0_6.length) = True := eq_true (by omega)
            (try rw [show ((1 : Int)).toNat = 1 from rfl] at hx136_0)
            (try rw [show 1 * 7 = 7 from rfl] at hx136_0)
            (try rw [show ((1 : Int)).toNat = 1 from rfl] at hx136_1)
            (try rw [show 1 * 7 = 7 from rfl] at hx136_1)
            (try rw [show ((1 : Int)).toNat = 1 from rfl] at hx136_2)
            (try rw [show 1 * 7 = 7 from rfl] at hx136_2)
            (try rw [show ((1 : Int)).toNat = 1 from rfl] at hx136_3)
            (try rw [show 1 * 7 = 7 from rfl] at hx136_3)
            (try rw [show ((1 : Int)).toNat = 1 from rfl] at hx136_4)
            (try rw [show 1 * 7 = 7 from rfl] at hx136_4)
            (try rw [show ((1 : Int)).toNat = 1 from rfl] at hx136_5)
            (try rw [show 1 * 7 = 7 from rfl] at hx136_5)
            (try rw [show ((1 : Int)).toNat = 1 from rfl] at hx136_6)
            (try rw [show 1 * 7 = 7 from rfl] at hx136_6)
            replace hx136_0 := hb_ HB hx136_0
            replace hx136_1 := hb_ HB hx136_1
            replace hx136_2 := hb_ HB hx136_2
            replace hx136_3 := hb_ HB hx136_3
            replace hx136_4 := hb_ HB hx136_4
            replace hx136_5 := hb_ HB hx136_5
            replace hx136_6 := hb_ HB hx136_6
            have HR136_6 := Aside0.mk hi136_6
            have HC136_6 := Aside0.mk hl136_6
            clear hi136_6 hl136_6
            replace p136 := eq_true p136
            replace q136 := eq_true q136
            refine start_ (n := 19) (S := fun w' => w'.cell? ⟨gb131, 0, none⟩ = some (.int .i64 a0_0) ∧ w'.cell? ⟨gb131, 1, none⟩ = some (.int .i64 a0_1) ∧ w'.cell? ⟨gb131, 2, none⟩ = some (.int .i64 a0_2) ∧ w'.cell? ⟨gb131, 3, none⟩ = some (.int .i64 a0_3) ∧ w'.cell? ⟨gb131, 4, none⟩ = some (.string a0_4) ∧ w'.cell? ⟨gb131, 5, none⟩ = some (.string a0_5) ∧ w'.cell? ⟨gb131, 6, none⟩ = some (.slice (some ad134) l0_6.length c0_6) ∧ w'.cell? ad134 = some (.int .i64 ((rd_T32 l0_6 0).f0)) ∧ w'.cell? ⟨ad134.block, ad134.off + 1, none⟩ = some (.int .i64 ((rd_T32 l0_6 0).f1)) ∧ w'.cell? ⟨ad134.block, ad134.off + 2, none⟩ = some (.int .i64 ((rd_T32 l0_6 0).f2.f0)) ∧ w'.cell? ⟨ad134.block, ad134.off + 3, none⟩ = some (.int .i64 ((rd_T32 l0_6 0).f2.f1)) ∧ w'.cell? ⟨ad134.block, ad134.off + 4, none⟩ = some (.string ((rd_T32 l0_6 0).f2.f2)) ∧ w'.cell? ⟨ad134.block, ad134.off + 5, none⟩ = some (.string ((rd_T32 l0_6 0).f3)) ∧ w'.cell? ⟨ad134.block, ad134.off + 6, none⟩ = some (.slice A134_6 ((rd_T32 l0_6 0).f4).length c134_6) ∧ w'.cell? ⟨ad134.block, ad134.off + 7, none⟩ = some (.int .i64 ((rd_T32 l0_6 1).f0)) ∧ w'.cell? ⟨ad134.block, ad134.off + 7 + 1, none⟩ = some (.int .i64 ((rd_T32 l0_6 1).f1)) ∧ w'.cell? ⟨ad134.block, ad134.off + 7 + 2, none⟩ = some (.int .i64 ((rd_T32 l0_6 1).f2.f0)) ∧ w'.cell? ⟨ad134.block, ad134.off + 7 + 3, none⟩ = some (.int .i64 ((rd_T32 l0_6 1).f2.f1)) ∧ w'.cell? ⟨ad134.block, ad134.off + 7 + 4, none⟩ = some (.string ((rd_T32 l0_6 1).f2.f2)) ∧ w'.cell? ⟨ad134.block, ad134.off + 7 + 5, none⟩ = some (.string ((rd_T32 l0_6 1).f3)) ∧ w'.cell? ⟨ad134.block, ad134.off + 7 + 6, none⟩ = some (.slice A136_6 ((rd_T32 l0_6 1).f4).length c136_6)) (ds := []) (tf 0 19) (by kernel_rfl) rfl rfl ⟨bc_ BK131 0, bc_ BK131 1, bc_ BK131 2, bc_ BK131 3, bc_ BK131 4, bc_ BK131 5, bc_ BK131 6, (hb_ HB hw134_0), (hb_ HB hw134_1), (hb_ HB hw134_2), (hb_ HB hw134_3), (hb_ HB hw134_4), (hb_ HB hw134_5), (hb_ HB hw134_6), (hb_ HB hw136_0), (hb_ HB hw136_1), (hb_ HB hw136_2), (hb_ HB hw136_3), (hb_ HB hw136_4), (hb_ HB hw136_5), (hb_ HB hw136_6)⟩ (fun hHeld => ?_); refine with_tabW spec_l03Text.tab7 spec_l03Text.bits7 (fun HT_ HW_ => ?_)
            generalize w23.drew = w25 at BK131 HB HR134_6 HR136_6 hx134_0 hx134_1 hx134_2 hx134_3 hx134_4 hx134_5 hx134_6 hx136_0 hx136_1 hx136_2 hx136_3 hx136_4 hx136_5 hx136_6 hHeld ⊢
            refine pl_ ?_
            refine plx_ 7 #[true, false, false, false, false, false, false, true, false, false, false, false, false, false, false, false, false, false, false] ?_
            refine plx_ 11 #[true, false, false, false, false, false, false, true, false, false, false, true, false, false, false, false, false, false, false] ?_
            refine tlx_ 1 #[true, true, false, false, false, false, false, true, false, false, false, true, false, false, false, false, false, false, false] ?_
            refine plx_ 2 #[true, true, true, false, false, false, false, true, false, false, false, true, false, false, false, false, false, false, false] ?_
            refine tlx_ 3 #[true, true, true, true, false, false, false, true, false, false, false, true, false, false, false, false, false, false, false] ?_
            refine tlx_ 8 #[true, true, true, true, false, false, false, true, true, false, false, true, false, false, false, false, false, false, false] ?_
            refine tlx_ 12 #[true, true, true, true, false, false, false, true, true, false, false, true, true, false, false, false, false, false, false] ?_
            refine plx_ 13 #[true, true, true, true, false, false, false, true, true, false, false, true, true, true, false, false, false, false, false] ?_
            refine tlx_ 14 #[true, true, true, true, false, false, false, true, true, false, false, true, true, true, true, false, false, false, false] ?_
            refine one_ (i := 4) (N := some 22) #[true, true, true, true, true, false, false, true, true, false, false, true, true, true, true, false, false, false, false] rfl rfl (one_of HT_.out (by kernel_rfl)) (by decide) (fun K hK => ?_)
            refine gs_ Tryd.func45 #[.agg #[.int .i64 ((rd_T32 l0_6 0).f0), .int .i64 ((rd_T32 l0_6 0).f1), .int .i64 ((rd_T32 l0_6 0).f2.f0), .int .i64 ((rd_T32 l0_6 0).f2.f1), .string ((rd_T32 l0_6 0).f2.f2), .string ((rd_T32 l0_6 0).f3), .slice A134_6 ((rd_T32 l0_6 0).f4).length c134_6]] ?_
            with_reducible refine (ih k (by omega) ((rd_T32 l0_6 0).f0) ((rd_T32 l0_6 0).f1) ((rd_T32 l0_6 0).f2.f0) ((rd_T32 l0_6 0).f2.f1) ((rd_T32 l0_6 0).f2.f2) ((rd_T32 l0_6 0).f3) _ _ ((rd_T32 l0_6 0).f4) t135 _ ?side1 ?side2 A14.out).mono ?_
            (case side1 => exact ck_ (Kd.C_below HR134_6.out HB.out))
            (case side2 => exact HC134_6.out)
            rintro e w26 ⟨rfl, hb⟩
            refine ⟨_, rfl, ?_⟩
            replace BK131 := bkb_ BK131 hb
            replace HB := bs_ hb
            (try clear hb)
            (try clear hb2)
            (try clear hk)
            (try clear hi)
            refine hK.out _ _ ⟨bc_ BK131 0, bc_ BK131 1, bc_ BK131 2, bc_ BK131 3, bc_ BK131 4, bc_ BK131 5, bc_ BK131 6, (hb_ HB hw134_0), (hb_ HB hw134_1), (hb_ HB hw134_2), (hb_ HB hw134_3), (hb_ HB hw134_4), (hb_ HB hw134_5), (hb_ HB hw134_6), (hb_ HB hw136_0), (hb_ HB hw136_1), (hb_ HB hw136_2), (hb_ HB hw136_3), (hb_ HB hw136_4), (hb_ HB hw136_5), (hb_ HB hw136_6)⟩ (fun hHeld => ?_)
            clear hK K
            refine nm_ ?_
            refine plx_ 5 #[true, true, true, true, true, true, false, true, true, false, false, true, true, true, true, false, false, false, false] ?_
            refine plx_ 6 #[true, true, true, true, true, true, true, true, true, false, false, true, true, true, true, false, false, false, false] ?_
            refine plx_ 9 #[true, true, true, true, true, true, true, true, true, true, false, true, true, true, true, false, false, false, false] ?_
            refine plx_ 10 (tf 15 4) ?_
            refine one_ (i := 15) (N := some 33) (tf 16 3) rfl rfl (one_of HT_.out (by kernel_rfl)) (by decide) (fun K hK => ?_)
            refine gs_ Tryd.func45 #[.agg #[.int .i64 ((rd_T32 l0_6 1).f0), .int .i64 ((rd_T32 l0_6 1).f1), .int .i64 ((rd_T32 l0_6 1).f2.f0), .int .i64 ((rd_T32 l0_6 1).f2.f1), .string ((rd_T32 l0_6 1).f2.f2), .string ((rd_T32 l0_6 1).f3), .slice A136_6 ((rd_T32 l0_6 1).f4).length c136_6]] ?_
            with_reducible refine (ih k (by omega) ((rd_T32 l0_6 1).f0) ((rd_T32 l0_6 1).f1) ((rd_T32 l0_6 1).f2.f0) ((rd_T32 l0_6 1).f2.f1) ((rd_T32 l0_6 1).f2.f2) ((rd_T32 l0_6 1).f3) _ _ ((rd_T32 l0_6 1).f4) t137 _ ?side1 ?side2 A20.out).mono ?_
            (case side1 => exact ck_ (Kd.C_below HR136_6.out HB.out))
            (case side2 => exact HC136_6.out)
            rintro e w27 ⟨rfl, hb⟩
            refine ⟨_, rfl, ?_⟩
            replace BK131 := bkb_ BK131 hb
            replace HB := bs_ hb
            (try clear hb)
            (try clear hb2)
            (try clear hk)
            (try clear hi)
            refine hK.out _ _ ⟨bc_ BK131 0, bc_ BK131 1, bc_ BK131 2, bc_ BK131 3, bc_ BK131 4, bc_ BK131 5, bc_ BK131 6, (hb_ HB hw134_0), (hb_ HB hw134_1), (hb_ HB hw134_2), (hb_ HB hw134_3), (hb_ HB hw134_4), (hb_ HB hw134_5), (hb_ HB hw134_6), (hb_ HB hw136_0), (hb_ HB hw136_1), (hb_ HB hw136_2), (hb_ HB hw136_3), (hb_ HB hw136_4), (hb_ HB hw136_5), (hb_ HB hw136_6)⟩ (fun hHeld => ?_)
            clear hK K
            refine nm_ ?_
            refine plx_ 16 (tf 17 2) ?_
            iterate 2 (refine pl_ ?_)
            refine done_ (done_of HT_.out (by kernel_rfl)) ?_
            try go_wp2
            go_ret
            exact ⟨er_, bb_⟩
           ·rw [if_neg c22] at H
            exact absurd H (by simp)
          ·rw [if_neg c21] at H
           exact absurd H (by simp)
         ·rw [if_neg c19] at H
          exact absurd H (by simp)
        ·rw [if_neg c18] at H
         exact absurd H (by simp)
       ·rw [if_neg c17] at H
        exact absurd H (by simp)
      ·rw [if_neg c16] at H
       exact absurd H (by simp)
     ·rw [if_neg c15] at H
      exact absurd H (by simp)
    ·rw [if_neg c13] at H
     exact absurd H (by simp)
   ·rw [if_neg c12] at H
    have c12b0 : (a0_0 == 2) = false := beq_eq_false_iff_ne.mpr c12
    have c12b1 : (a0_0 != 2) = true := bne_iff_ne.mpr c12
    by_cases c28 : a0_0 = 3
    ·rw [if_pos c28] at H
     have c28b0 : (a0_0 == 3) = true := beq_iff_eq.mpr c28
     have c28b1 : (a0_0 != 3) = false := bne_eq_false_iff_eq.mpr c28
     clear c28
     by_cases c29 : 0 < (l0_6.length : Int)
     ·rw [if_pos c29] at H
      have c29b0 : decide (0 < (l0_6.length : Int)) = true := decide_eq_true c29
      have c29b1 : decide (0 < l0_6.length) = true := decide_eq_true (by omega)
      clear c29
      replace H := Option.bind_eq_some_iff.mp H
      obtain ⟨t139, A300, H⟩ := H
      replace H : (if 4 + t139.size ≤ 9223372036854775807 then (if ((⟨#[110, 111, 116, 40]⟩ : ByteArray) ++ t139).size + 1 ≤ 9223372036854775807 then (some (((⟨#[110, 111, 116, 40]⟩ : ByteArray) ++ t139) ++ (⟨#[41]⟩ : ByteArray))) else (none)) else (none)) = some r := H
      have A30 := Aside0.mk A300
      clear A300
      by_cases c31 : 4 + t139.size ≤ 9223372036854775807
      ·rw [if_pos c31] at H
       have c31b0 := eq_true c31
       have c31b1 : decide (4 + t139.size ≤ 9223372036854775807) = true := decide_eq_true c31
       try have c31b2 : (9223372036854775807 < 4 + t139.size) = False := eq_false (Nat.not_lt.2 c31)
       by_cases c32 : ((⟨#[110, 111, 116, 40]⟩ : ByteArray) ++ t139).size + 1 ≤ 9223372036854775807
       ·rw [if_pos c32] at H
        have c32b0 := eq_true c32
        have c32b1 : decide (((⟨#[110, 111, 116, 40]⟩ : ByteArray) ++ t139).size + 1 ≤ 9223372036854775807) = true := decide_eq_true c32
        try have c32b2 : (9223372036854775807 < ((⟨#[110, 111, 116, 40]⟩ : ByteArray) ++ t139).size + 1) = False := eq_false (Nat.not_lt.2 c32)
        (try (have c32b0z := c32b0; simp only [ByteArray.size_append] at c32b0z))
        (try (have c32b1z := c32b1; simp only [ByteArray.size_append] at c32b1z))
        (try (have c32b2z := c32b2; simp only [ByteArray.size_append] at c32b2z))
        (try (have c32b2y : (9223372036854775807 < 4 + t139.size + 1) = False := by (apply eq_false; have hq_ := c32; simp only [ByteArray.size_append, ByteArray.size_extract] at hq_; have hl0_ : (⟨#[110, 111, 116, 40]⟩ : ByteArray).size = 4 := rfl; omega)))
        obtain rfl := Option.some.inj H
        go_enter Tryd.func45, Tryd.ntmps45
        go_wp2_with (first | ((with_reducible refine gate_dst (N := 1) rfl ?_); refine bx_ 1 #[.int .i64 a0_0, .int .i64 a0_1, .int .i64 a0_2, .int .i64 a0_3, .string a0_4, .string a0_5, .slice A0_6 l0_6.length c0_6] 32 ?_; intro gb131 hg w33 hbox hb; have BK131 := Aside0.mk (hbox); have GW131 := gw_ hg; have GE131 := gw_ hg; replace HB := bs_ hb; clear hb hbox hg; obtain ⟨hcz34_0, hcz34_1, hcz34_2, hcz34_3, hcz34_4, hcz34_5, hcz34_6, hfz34_0, hfz34_1, hfz34_2, hfz34_3, hfz34_4, hfz34_5, hfz34_6⟩ := b7_ BK131; have p138 : 0 ≤ (0 : Int) := (by omega); have q138 : 0 < (l0_6.length : Int) := of_decide_eq_true (by first | (with_reducible assumption) | assumption); obtain ⟨ad138, A138_6, c138_6, e138, hx138_0, hx138_1, hx138_2, hx138_3, hx138_4, hx138_5, hx138_6, hl138_6, hi138_6⟩ := at_T32 HR0_6.out 0 p138 q138; cases e138; have qi138 : (0 < l0_6.length) = True := eq_true (by omega); (try rw [show ((0 : Int)).toNat = 0 from rfl] at hx138_0); (try rw [show 0 * 7 = 0 from rfl] at hx138_0); (try rw [Addr.add_zero'] at hx138_0); (try rw [show ((0 : Int)).toNat = 0 from rfl] at hx138_1); (try rw [show 0 * 7 = 0 from rfl] at hx138_1); (try rw [Addr.add_zero'] at hx138_1); (try rw [show ((0 : Int)).toNat = 0 from rfl] at hx138_2); (try rw [show 0 * 7 = 0 from rfl] at hx138_2); (try rw [Addr.add_zero'] at hx138_2); (try rw [show ((0 : Int)).toNat = 0 from rfl] at hx138_3); (try rw [show 0 * 7 = 0 from rfl] at hx138_3); (try rw [Addr.add_zero'] at hx138_3); (try rw [show ((0 : Int)).toNat = 0 from rfl] at hx138_4); (try rw [show 0 * 7 = 0 from rfl] at hx138_4); (try rw [Addr.add_zero'] at hx138_4); (try rw [show ((0 : Int)).toNat = 0 from rfl] at hx138_5); (try rw [show 0 * 7 = 0 from rfl] at hx138_5); (try rw [Addr.add_zero'] at hx138_5); (try rw [show ((0 : Int)).toNat = 0 from rfl] at hx138_6); (try rw [show 0 * 7 = 0 from rfl] at hx138_6); (try rw [Addr.add_zero'] at hx138_6); replace hx138_0 := hb_ HB hx138_0; replace hx138_1 := hb_ HB hx138_1; replace hx138_2 := hb_ HB hx138_2; replace hx138_3 := hb_ HB hx138_3; replace hx138_4 := hb_ HB hx138_4; replace hx138_5 := hb_ HB hx138_5; replace hx138_6 := hb_ HB hx138_6; have HR138_6 := Aside0.mk hi138_6; have HC138_6 := Aside0.mk hl138_6; clear hi138_6 hl138_6; replace p138 := eq_true p138; replace q138 := eq_true q138) | ((with_reducible refine gate_callee (f := 45) rfl ?_); refine gsL_ (some 42) Tryd.func45 #[.agg #[.int .i64 ((rd_T32 l0_6 0).f0), .int .i64 ((rd_T32 l0_6 0).f1), .int .i64 ((rd_T32 l0_6 0).f2.f0), .int .i64 ((rd_T32 l0_6 0).f2.f1), .string ((rd_T32 l0_6 0).f2.f2), .string ((rd_T32 l0_6 0).f3), .slice A138_6 ((rd_T32 l0_6 0).f4).length c138_6]] ?_; (with_reducible refine (ih k (by omega) ((rd_T32 l0_6 0).f0) ((rd_T32 l0_6 0).f1) ((rd_T32 l0_6 0).f2.f0) ((rd_T32 l0_6 0).f2.f1) ((rd_T32 l0_6 0).f2.f2) ((rd_T32 l0_6 0).f3) _ _ ((rd_T32 l0_6 0).f4) t139 _ ?side1 ?side2 A30.out).mono ?_); (case side1 => exact ck_ (Kd.C_below HR138_6.out HB.out)); (case side2 => exact HC138_6.out); rintro e w35 ⟨rfl, hb⟩; refine ⟨_, rfl, ?_⟩; replace BK131 := bkb_ BK131 hb; replace HB := bs_ hb; (try clear hb); (try clear hb2); (try clear hk); (try clear hi)))
        go_ret
        exact ⟨er_, bb_⟩
       ·rw [if_neg c32] at H
        exact absurd H (by simp)
      ·rw [if_neg c31] at H
       exact absurd H (by simp)
     ·rw [if_neg c29] at H
      exact absurd H (by simp)
    ·rw [if_neg c28] at H
     have c28b0 : (a0_0 == 3) = false := beq_eq_false_iff_ne.mpr c28
     have c28b1 : (a0_0 != 3) = true := bne_iff_ne.mpr c28
     by_cases c36 : 0 < (l0_6.length : Int)
     ·rw [if_pos c36] at H
      have c36b0 : decide (0 < (l0_6.length : Int)) = true := decide_eq_true c36
      have c36b1 : decide (0 < l0_6.length) = true := decide_eq_true (by omega)
      clear c36
      replace H := Option.bind_eq_some_iff.mp H
      obtain ⟨t141, A370, H⟩ := H
      replace H : (if 7 + t141.size ≤ 9223372036854775807 then (if ((⟨#[105, 115, 110, 117, 108, 108, 40]⟩ : ByteArray) ++ t141).size + 1 ≤ 9223372036854775807 then (some (((⟨#[105, 115, 110, 117, 108, 108, 40]⟩ : ByteArray) ++ t141) ++ (⟨#[41]⟩ : ByteArray))) else (none)) else (none)) = some r := H
      have A37 := Aside0.mk A370
      clear A370
      by_cases c38 : 7 + t141.size ≤ 9223372036854775807
      ·rw [if_pos c38] at H
       have c38b0 := eq_true c38
       have c38b1 : decide (7 + t141.size ≤ 9223372036854775807) = true := decide_eq_true c38
       try have c38b2 : (9223372036854775807 < 7 + t141.size) = False := eq_false (Nat.not_lt.2 c38)
       by_cases c39 : ((⟨#[105, 115, 110, 117, 108, 108, 40]⟩ : ByteArray) ++ t141).size + 1 ≤ 9223372036854775807
       ·rw [if_pos c39] at H
        have c39b0 := eq_true c39
        have c39b1 : decide (((⟨#[105, 115, 110, 117, 108, 108, 40]⟩ : ByteArray) ++ t141).size + 1 ≤ 9223372036854775807) = true := decide_eq_true c39
        try have c39b2 : (9223372036854775807 < ((⟨#[105, 115, 110, 117, 108, 108, 40]⟩ : ByteArray) ++ t141).size + 1) = False := eq_false (Nat.not_lt.2 c39)
        (try (have c39b0z := c39b0; simp only [ByteArray.size_append] at c39b0z))
        (try (have c39b1z := c39b1; simp only [ByteArray.size_append] at c39b1z))
        (try (have c39b2z := c39b2; simp only [ByteArray.size_append] at c39b2z))
        (try (have c39b2y : (9223372036854775807 < 7 + t141.size + 1) = False := by (apply eq_false; have hq_ := c39; simp only [ByteArray.size_append, ByteArray.size_extract] at hq_; have hl0_ : (⟨#[105, 115, 110, 117, 108, 108, 40]⟩ : ByteArray).size = 7 := rfl; omega)))
        obtain rfl := Option.some.inj H
        go_enter Tryd.func45, Tryd.ntmps45
        go_wp2_with (first | ((with_reducible refine gate_dst (N := 1) rfl ?_); refine bx_ 1 #[.int .i64 a0_0, .int .i64 a0_1, .int .i64 a0_2, .int .i64 a0_3, .string a0_4, .string a0_5, .slice A0_6 l0_6.length c0_6] 32 ?_; intro gb131 hg w40 hbox hb; have BK131 := Aside0.mk (hbox); have GW131 := gw_ hg; have GE131 := gw_ hg; replace HB := bs_ hb; clear hb hbox hg; obtain ⟨hcz41_0, hcz41_1, hcz41_2, hcz41_3, hcz41_4, hcz41_5, hcz41_6, hfz41_0, hfz41_1, hfz41_2, hfz41_3, hfz41_4, hfz41_5, hfz41_6⟩ := b7_ BK131; have p140 : 0 ≤ (0 : Int) := (by omega); have q140 : 0 < (l0_6.length : Int) := of_decide_eq_true (by first | (with_reducible assumption) | assumption); obtain ⟨ad140, A140_6, c140_6, e140, hx140_0, hx140_1, hx140_2, hx140_3, hx140_4, hx140_5, hx140_6, hl140_6, hi140_6⟩ := at_T32 HR0_6.out 0 p140 q140; cases e140; have qi140 : (0 < l0_6.length) = True := eq_true (by omega); (try rw [show ((0 : Int)).toNat = 0 from rfl] at hx140_0); (try rw [show 0 * 7 = 0 from rfl] at hx140_0); (try rw [Addr.add_zero'] at hx140_0); (try rw [show ((0 : Int)).toNat = 0 from rfl] at hx140_1); (try rw [show 0 * 7 = 0 from rfl] at hx140_1); (try rw [Addr.add_zero'] at hx140_1); (try rw [show ((0 : Int)).toNat = 0 from rfl] at hx140_2); (try rw [show 0 * 7 = 0 from rfl] at hx140_2); (try rw [Addr.add_zero'] at hx140_2); (try rw [show ((0 : Int)).toNat = 0 from rfl] at hx140_3); (try rw [show 0 * 7 = 0 from rfl] at hx140_3); (try rw [Addr.add_zero'] at hx140_3); (try rw [show ((0 : Int)).toNat = 0 from rfl] at hx140_4); (try rw [show 0 * 7 = 0 from rfl] at hx140_4); (try rw [Addr.add_zero'] at hx140_4); (try rw [show ((0 : Int)).toNat = 0 from rfl] at hx140_5); (try rw [show 0 * 7 = 0 from rfl] at hx140_5); (try rw [Addr.add_zero'] at hx140_5); (try rw [show ((0 : Int)).toNat = 0 from rfl] at hx140_6); (try rw [show 0 * 7 = 0 from rfl] at hx140_6); (try rw [Addr.add_zero'] at hx140_6); replace hx140_0 := hb_ HB hx140_0; replace hx140_1 := hb_ HB hx140_1; replace hx140_2 := hb_ HB hx140_2; replace hx140_3 := hb_ HB hx140_3; replace hx140_4 := hb_ HB hx140_4; replace hx140_5 := hb_ HB hx140_5; replace hx140_6 := hb_ HB hx140_6; have HR140_6 := Aside0.mk hi140_6; have HC140_6 := Aside0.mk hl140_6; clear hi140_6 hl140_6; replace p140 := eq_true p140; replace q140 := eq_true q140) | ((with_reducible refine gate_callee (f := 45) rfl ?_); refine gsL_ (some 49) Tryd.func45 #[.agg #[.int .i64 ((rd_T32 l0_6 0).f0), .int .i64 ((rd_T32 l0_6 0).f1), .int .i64 ((rd_T32 l0_6 0).f2.f0), .int .i64 ((rd_T32 l0_6 0).f2.f1), .string ((rd_T32 l0_6 0).f2.f2), .string ((rd_T32 l0_6 0).f3), .slice A140_6 ((rd_T32 l0_6 0).f4).length c140_6]] ?_; (with_reducible refine (ih k (by omega) ((rd_T32 l0_6 0).f0) ((rd_T32 l0_6 0).f1) ((rd_T32 l0_6 0).f2.f0) ((rd_T32 l0_6 0).f2.f1) ((rd_T32 l0_6 0).f2.f2) ((rd_T32 l0_6 0).f3) _ _ ((rd_T32 l0_6 0).f4) t141 _ ?side1 ?side2 A37.out).mono ?_); (case side1 => exact ck_ (Kd.C_below HR140_6.out HB.out)); (case side2 => exact HC140_6.out); rintro e w42 ⟨rfl, hb⟩; refine ⟨_, rfl, ?_⟩; replace BK131 := bkb_ BK131 hb; replace HB := bs_ hb; (try clear hb); (try clear hb2); (try clear hk); (try clear hi)))
        go_ret
        exact ⟨er_, bb_⟩
       ·rw [if_neg c39] at H
        exact absurd H (by simp)
      ·rw [if_neg c38] at H
       exact absurd H (by simp)
     ·rw [if_neg c36] at H
      exact absurd H (by simp)

/-! ### spec_ExpText: function 8 -/
def spec_ExpText.f (k : Nat) (a0_0 : Int) (a0_1 : Int) (a0_2 : Int) (a0_3 : Int) (a0_4 : ByteArray) (a0_5 : ByteArray) (l0_6 : List (S32)) : Option (ByteArray) := (spec_ExpOk.f k a0_0 a0_1 a0_2 a0_3 a0_4 a0_5 l0_6).bind fun t143 => (if t143 = true then ((spec_l03Text.f k a0_0 a0_1 a0_2 a0_3 a0_4 a0_5 l0_6).bind fun t144 => (some t144)) else (some (⟨#[]⟩ : ByteArray)))
set_option maxHeartbeats 8000000 in
set_option maxRecDepth 100000 in
theorem spec_ExpText.calls (k : Nat) (a0_0 : Int) (a0_1 : Int) (a0_2 : Int) (a0_3 : Int) (a0_4 : ByteArray) (a0_5 : ByteArray) (A0_6 : Option Addr) (c0_6 : Nat) (l0_6 : List (S32)) (r : ByteArray) (w : World) (hr0_6 : Kd.C k32 w A0_6 l0_6.length l0_6) (hc0_6 : l0_6.length ≤ c0_6) (h : spec_ExpText.f k a0_0 a0_1 a0_2 a0_3 a0_4 a0_5 l0_6 = some r) :
  Calls Tryd.prog 8 #[.agg #[.int .i64 a0_0, .int .i64 a0_1, .int .i64 a0_2, .int .i64 a0_3, .string a0_4, .string a0_5, .slice A0_6 l0_6.length c0_6]] w fun e w' => e = .returned (.string r) ∧ Below w.heap.size w w' := by
 have hu32 := Tryd.underlying32
 have HR0_6 := Aside0.mk hr0_6
 have HC0_6 := Aside0.mk hc0_6
 clear hr0_6 hc0_6
 have HB := Aside0.mk (Below.refl w.heap.size w)
 have H : ((spec_ExpOk.f k a0_0 a0_1 a0_2 a0_3 a0_4 a0_5 l0_6).bind fun t143 => (if t143 = true then ((spec_l03Text.f k a0_0 a0_1 a0_2 a0_3 a0_4 a0_5 l0_6).bind fun t144 => (some t144)) else (some (⟨#[]⟩ : ByteArray)))) = some r := h
 clear h
 replace H := Option.bind_eq_some_iff.mp H
 obtain ⟨t143, A20, H⟩ := H
 replace H : (if t143 = true then ((spec_l03Text.f k a0_0 a0_1 a0_2 a0_3 a0_4 a0_5 l0_6).bind fun t144 => (some t144)) else (some (⟨#[]⟩ : ByteArray))) = some r := H
 have A2 := Aside0.mk A20
 clear A20
 by_cases c3 : t143 = true
 ·subst c3
  have H1 : ((spec_l03Text.f k a0_0 a0_1 a0_2 a0_3 a0_4 a0_5 l0_6).bind fun t144 => (some t144)) = some r := by rw [if_pos rfl] at H; exact H
  clear H
  have H := H1
  clear H1
  replace H := Option.bind_eq_some_iff.mp H
  obtain ⟨t144, A40, H⟩ := H
  replace H : (some t144) = some r := H
  have A4 := Aside0.mk A40
  clear A40
  obtain rfl := Option.some.inj H
  go_enter Tryd.func8, Tryd.ntmps8
  go_wp2_with (first | ((with_reducible refine gate_dst (N := 1) rfl ?_); refine bx_ 1 #[.int .i64 a0_0, .int .i64 a0_1, .int .i64 a0_2, .int .i64 a0_3, .string a0_4, .string a0_5, .slice A0_6 l0_6.length c0_6] 32 ?_; intro gb142 hg w5 hbox hb; have BK142 := Aside0.mk (hbox); have GW142 := gw_ hg; have GE142 := gw_ hg; replace HB := bs_ hb; clear hb hbox hg; obtain ⟨hcz6_0, hcz6_1, hcz6_2, hcz6_3, hcz6_4, hcz6_5, hcz6_6, hfz6_0, hfz6_1, hfz6_2, hfz6_3, hfz6_4, hfz6_5, hfz6_6⟩ := b7_ BK142) | ((with_reducible refine gate_callee (f := 44) rfl ?_); refine gsL_ (some 4) Tryd.func44 #[.agg #[.int .i64 a0_0, .int .i64 a0_1, .int .i64 a0_2, .int .i64 a0_3, .string a0_4, .string a0_5, .slice A0_6 l0_6.length c0_6]] ?_; (with_reducible refine (spec_ExpOk.calls k a0_0 a0_1 a0_2 a0_3 a0_4 a0_5 _ _ l0_6 true _ ?side1 ?side2 A2.out).mono ?_); (case side1 => exact ck_ (Kd.C_below HR0_6.out HB.out)); (case side2 => exact HC0_6.out); rintro e w7 ⟨rfl, hb⟩; refine ⟨_, rfl, ?_⟩; replace BK142 := bkb_ BK142 hb; replace HB := bs_ hb; (try clear hb); (try clear hb2); (try clear hk); (try clear hi); obtain ⟨hcz8_0, hcz8_1, hcz8_2, hcz8_3, hcz8_4, hcz8_5, hcz8_6, hfz8_0, hfz8_1, hfz8_2, hfz8_3, hfz8_4, hfz8_5, hfz8_6⟩ := b7_ BK142) | ((with_reducible refine gate_callee (f := 45) rfl ?_); refine gsL_ (some 7) Tryd.func45 #[.agg #[.int .i64 a0_0, .int .i64 a0_1, .int .i64 a0_2, .int .i64 a0_3, .string a0_4, .string a0_5, .slice A0_6 l0_6.length c0_6]] ?_; (with_reducible refine (spec_l03Text.calls k a0_0 a0_1 a0_2 a0_3 a0_4 a0_5 _ _ l0_6 t144 _ ?side1 ?side2 A4.out).mono ?_); (case side1 => exact ck_ (Kd.C_below HR0_6.out HB.out)); (case side2 => exact HC0_6.out); rintro e w9 ⟨rfl, hb⟩; refine ⟨_, rfl, ?_⟩; replace BK142 := bkb_ BK142 hb; replace HB := bs_ hb; (try clear hb); (try clear hb2); (try clear hk); (try clear hi)))
  go_ret
  exact ⟨er_, bb_⟩
 ·replace c3 := Bool.eq_false_iff.mpr c3
  subst c3
  have H1 : (some (⟨#[]⟩ : ByteArray)) = some r := by rw [if_neg (show ¬ (false = true) by decide)] at H; exact H
  clear H
  have H := H1
  clear H1
  obtain rfl := Option.some.inj H
  go_enter Tryd.func8, Tryd.ntmps8
  go_wp2_with (first | ((with_reducible refine gate_dst (N := 1) rfl ?_); refine bx_ 1 #[.int .i64 a0_0, .int .i64 a0_1, .int .i64 a0_2, .int .i64 a0_3, .string a0_4, .string a0_5, .slice A0_6 l0_6.length c0_6] 32 ?_; intro gb142 hg w10 hbox hb; have BK142 := Aside0.mk (hbox); have GW142 := gw_ hg; have GE142 := gw_ hg; replace HB := bs_ hb; clear hb hbox hg; obtain ⟨hcz11_0, hcz11_1, hcz11_2, hcz11_3, hcz11_4, hcz11_5, hcz11_6, hfz11_0, hfz11_1, hfz11_2, hfz11_3, hfz11_4, hfz11_5, hfz11_6⟩ := b7_ BK142) | ((with_reducible refine gate_callee (f := 44) rfl ?_); refine gsL_ (some 4) Tryd.func44 #[.agg #[.int .i64 a0_0, .int .i64 a0_1, .int .i64 a0_2, .int .i64 a0_3, .string a0_4, .string a0_5, .slice A0_6 l0_6.length c0_6]] ?_; (with_reducible refine (spec_ExpOk.calls k a0_0 a0_1 a0_2 a0_3 a0_4 a0_5 _ _ l0_6 false _ ?side1 ?side2 A2.out).mono ?_); (case side1 => exact ck_ (Kd.C_below HR0_6.out HB.out)); (case side2 => exact HC0_6.out); rintro e w12 ⟨rfl, hb⟩; refine ⟨_, rfl, ?_⟩; replace BK142 := bkb_ BK142 hb; replace HB := bs_ hb; (try clear hb); (try clear hb2); (try clear hk); (try clear hi)))
  go_ret
  exact ⟨er_, bb_⟩

/-! ### spec_l04Kids: function 108 -/
def spec_l04Kids.f (a0 : Int) : Option (Int) := (spec_l01In.f a0 0 6).bind fun t145 => (if t145 = true then ((some (([0, 1, 1, 2, 2, 1, 1] : List Int) : List Int)).bind fun y146 => (if 0 ≤ a0 then (if a0 < (y146.length : Int) then (some (rd y146 a0)) else (none)) else (none))) else (some (-1)))
set_option maxHeartbeats 8000000 in
set_option maxRecDepth 100000 in
theorem spec_l04Kids.calls (a0 : Int) (r : Int) (w : World) (h : spec_l04Kids.f a0 = some r) :
  Calls Tryd.prog 108 #[.int .i64 a0] w fun e w' => e = .returned (.int .i64 r) ∧ Below w.heap.size w w' := by
 have HB := Aside0.mk (Below.refl w.heap.size w)
 have H : ((spec_l01In.f a0 0 6).bind fun t145 => (if t145 = true then ((some (([0, 1, 1, 2, 2, 1, 1] : List Int) : List Int)).bind fun y146 => (if 0 ≤ a0 then (if a0 < (y146.length : Int) then (some (rd y146 a0)) else (none)) else (none))) else (some (-1)))) = some r := h
 clear h
 replace H := Option.bind_eq_some_iff.mp H
 obtain ⟨t145, A20, H⟩ := H
 replace H : (if t145 = true then ((some (([0, 1, 1, 2, 2, 1, 1] : List Int) : List Int)).bind fun y146 => (if 0 ≤ a0 then (if a0 < (y146.length : Int) then (some (rd y146 a0)) else (none)) else (none))) else (some (-1))) = some r := H
 have A2 := Aside0.mk A20
 clear A20
 by_cases c3 : t145 = true
 ·subst c3
  have H1 : ((some (([0, 1, 1, 2, 2, 1, 1] : List Int) : List Int)).bind fun y146 => (if 0 ≤ a0 then (if a0 < (y146.length : Int) then (some (rd y146 a0)) else (none)) else (none))) = some r := by rw [if_pos rfl] at H; exact H
  clear H
  have H := H1
  clear H1
  obtain ⟨y146, hy146⟩ : ∃ y_ : List Int, y_ = (([0, 1, 1, 2, 2, 1, 1] : List Int)) := ⟨_, rfl⟩
  replace H : (if 0 ≤ a0 then (if a0 < (y146.length : Int) then (some (rd y146 a0)) else (none)) else (none)) = some r := by first | (rw [hy146]; with_reducible exact H) | (have H2_ := (Option.bind_some _ _).symm.trans H; rw [hy146]; with_reducible exact H2_) | (have H2_ := (Option.bind_some _ _).symm.trans H; with_reducible exact H2_) | with_reducible exact H | (rw [hy146]; exact H) | exact H
  have Ny146 := Aside0.mk hy146
  clear hy146
  by_cases c4 : 0 ≤ a0
  ·rw [if_pos c4] at H
   have c4b0 : decide (0 ≤ a0) = true := decide_eq_true c4
   clear c4
   by_cases c5 : a0 < (y146.length : Int)
   ·rw [if_pos c5] at H
    have c5b0 : decide (a0 < (y146.length : Int)) = true := decide_eq_true c5
    clear c5
    obtain rfl := Option.some.inj H
    go_enter Tryd.func108, Tryd.ntmps108
    go_wp2_with (first | ((with_reducible refine gate_callee (f := 63) rfl ?_); refine gsL_ (some 4) Tryd.func63 #[.int .i64 a0, .int .i64 0, .int .i64 6] ?_; (with_reducible refine (spec_l01In.calls a0 0 6 true _ A2.out).mono ?_); rintro e w' ⟨rfl, ⟨nd, rfl⟩⟩; refine ⟨_, rfl, ?_⟩) | ((with_reducible refine gate_dst (N := 6) rfl ?_); refine Kd.R_lit (Kd.int .i64) _ 3 ?hg (N := 6) ?hd (xs := ([0, 1, 1, 2, 2, 1, 1] : List Int)) (inner := [.int .i64 0, .int .i64 1, .int .i64 1, .int .i64 2, .int .i64 2, .int .i64 1, .int .i64 1]) (ok := fun _ => True) (okp := fun _ => True) ?hr ?hp (fun _ hk => hk) trivial (Below.refl _ _) (Nat.le_refl _) (by simp) ?_; (case hd => rfl); (case hg => rfl); (case hr => first | (go_simp; done) | (go_simp; rfl)); (case hp => exact (Reps.one (show Kd.M (Kd.int .i64) _ _ _ 0 [.int .i64 0] from rfl) (Reps.one (show Kd.M (Kd.int .i64) _ _ _ 1 [.int .i64 1] from rfl) (Reps.one (show Kd.M (Kd.int .i64) _ _ _ 1 [.int .i64 1] from rfl) (Reps.one (show Kd.M (Kd.int .i64) _ _ _ 2 [.int .i64 2] from rfl) (Reps.one (show Kd.M (Kd.int .i64) _ _ _ 2 [.int .i64 2] from rfl) (Reps.one (show Kd.M (Kd.int .i64) _ _ _ 1 [.int .i64 1] from rfl) (Reps.one (show Kd.M (Kd.int .i64) _ _ _ 1 [.int .i64 1] from rfl) (Reps.none _ _))))))))); intro v147 w6 ho7 hb hg_ hnew_; clear hg_ hnew_; (first | rw [← Ny146.out] at ho7 | (simp only [Int.reduceToNat] at ho7; rw [← Ny146.out] at ho7)); have HO148 := Aside0.mk (Kd.R_lower ho7 (below_size bb_)); replace HB := bs_ hb; clear hb ho7; obtain ⟨Ao8, co8, eo8⟩ := Kd.R_slice HO148.out; subst eo8; have p149 : 0 ≤ (a0 : Int) := of_decide_eq_true (by first | (with_reducible assumption) | assumption); have q149 : a0 < (y146.length : Int) := of_decide_eq_true (by first | (with_reducible assumption) | assumption); obtain ⟨ad149, e149, hx149_0⟩ := Kd.at_int (Kd.R_reads' HO148.out).2.2 a0 p149 q149; cases e149; replace p149 := eq_true p149; replace q149 := eq_true q149))
    go_ret
    exact ⟨er_, bb_⟩
   ·rw [if_neg c5] at H
    exact absurd H (by simp)
  ·rw [if_neg c4] at H
   exact absurd H (by simp)
 ·replace c3 := Bool.eq_false_iff.mpr c3
  subst c3
  have H1 : (some (-1)) = some r := by rw [if_neg (show ¬ (false = true) by decide)] at H; exact H
  clear H
  have H := H1
  clear H1
  obtain rfl := Option.some.inj H
  go_enter Tryd.func108, Tryd.ntmps108
  go_wp2_with (first | ((with_reducible refine gate_callee (f := 63) rfl ?_); refine gsL_ (some 4) Tryd.func63 #[.int .i64 a0, .int .i64 0, .int .i64 6] ?_; (with_reducible refine (spec_l01In.calls a0 0 6 false _ A2.out).mono ?_); rintro e w' ⟨rfl, ⟨nd, rfl⟩⟩; refine ⟨_, rfl, ?_⟩))
  go_ret
  exact ⟨er_, bb_⟩

/-! ### spec_l04Exps: function 109 -/
def spec_l04Exps.l0 : Nat → List (S32) → ByteArray → Int → Option (ByteArray)
 | 0, _, _, _ => none
 | k + 1, x0, x3, x4 => if x4 < (x0.length : Int) then (if x4 > 0 then (if x3.size + 2 ≤ 9223372036854775807 then (if 0 ≤ x4 then ((spec_ExpText.f k ((rd_T32 x0 x4).f0) ((rd_T32 x0 x4).f1) ((rd_T32 x0 x4).f2.f0) ((rd_T32 x0 x4).f2.f1) ((rd_T32 x0 x4).f2.f2) ((rd_T32 x0 x4).f3) ((rd_T32 x0 x4).f4)).bind fun t151 => (if (x3 ++ (⟨#[44, 32]⟩ : ByteArray)).size + t151.size ≤ 9223372036854775807 then (spec_l04Exps.l0 k x0 ((x3 ++ (⟨#[44, 32]⟩ : ByteArray)) ++ t151) (wrap64 (x4 + 1))) else (none))) else (none)) else (none)) else (if 0 ≤ x4 then ((spec_ExpText.f k ((rd_T32 x0 x4).f0) ((rd_T32 x0 x4).f1) ((rd_T32 x0 x4).f2.f0) ((rd_T32 x0 x4).f2.f1) ((rd_T32 x0 x4).f2.f2) ((rd_T32 x0 x4).f3) ((rd_T32 x0 x4).f4)).bind fun t153 => (if x3.size + t153.size ≤ 9223372036854775807 then (spec_l04Exps.l0 k x0 (x3 ++ t153) (wrap64 (x4 + 1))) else (none))) else (none))) else (if x3.size + 1 ≤ 9223372036854775807 then (some (x3 ++ (⟨#[93]⟩ : ByteArray))) else (none))
def spec_l04Exps.f (k : Nat) (l0 : List (S32)) : Option (ByteArray) := spec_l04Exps.l0 k l0 (⟨#[91]⟩ : ByteArray) 0
set_option maxHeartbeats 8000000 in
set_option maxRecDepth 100000 in
theorem spec_l04Exps.calls (k : Nat) (A0 : Option Addr) (c0 : Nat) (l0 : List (S32)) (r : ByteArray) (w : World) (hr0 : Kd.C k32 w A0 l0.length l0) (hc0 : l0.length ≤ c0) (h : spec_l04Exps.f k l0 = some r) :
  Calls Tryd.prog 109 #[.slice A0 l0.length c0] w fun e w' => e = .returned (.string r) ∧ Below w.heap.size w w' := by
 have hu32 := Tryd.underlying32
 have HR0 := Aside0.mk hr0
 have HC0 := Aside0.mk hc0
 clear hr0 hc0
 have HB := Aside0.mk (Below.refl w.heap.size w)
 have H : (spec_l04Exps.l0 k l0 (⟨#[91]⟩ : ByteArray) 0) = some r := h
 clear h
 have H' := Aside0.mk H
 clear H
 go_enter Tryd.func109, Tryd.ntmps109
 go_wp2
 go_loopg [3, 4] k (fun kq v3 v4 w' => ∃ (x3_1 : ByteArray) (x4_1 : Int), v3 = .string x3_1 ∧ v4 = .int .i64 x4_1 ∧ Aside0 (spec_l04Exps.l0 kq l0 x3_1 x4_1 = some r) ∧ Aside0 (kq ≤ k) ∧ Aside0 (Below w.heap.size w w'))
 case atStart => exact ⟨((⟨#[91]⟩ : ByteArray)), (0), rs_, rs_, H', ⟨Nat.le_refl _⟩, ⟨bb_⟩⟩
 case round =>
  clear H'
  try clear c1
  obtain ⟨x3_1, x4_1, rfl, rfl, HA, HK1, HB⟩ := hrel
  cases gk with
  | zero => exact absurd HA.out (by simp [spec_l04Exps.l0])
  | succ k1 =>
   have H := HA.out
   clear HA
   simp only [spec_l04Exps.l0] at H
   by_cases c2 : x4_1 < (l0.length : Int)
   ·rw [if_pos c2] at H
    have c2b0 : decide (x4_1 < (l0.length : Int)) = true := decide_eq_true c2
    clear c2
    by_cases c3 : x4_1 > 0
    ·rw [if_pos c3] at H
     have c3b0 : decide (0 < x4_1) = true := decide_eq_true c3
     clear c3
     by_cases c4 : x3_1.size + 2 ≤ 9223372036854775807
     ·rw [if_pos c4] at H
      have c4b0 := eq_true c4
      have c4b1 : decide (x3_1.size + 2 ≤ 9223372036854775807) = true := decide_eq_true c4
      try have c4b2 : (9223372036854775807 < x3_1.size + 2) = False := eq_false (Nat.not_lt.2 c4)
      by_cases c5 : 0 ≤ x4_1
      ·rw [if_pos c5] at H
       have c5b0 : decide (0 ≤ x4_1) = true := decide_eq_true c5
       clear c5
       replace H := Option.bind_eq_some_iff.mp H
       obtain ⟨t151, A60, H⟩ := H
       replace H : (if (x3_1 ++ (⟨#[44, 32]⟩ : ByteArray)).size + t151.size ≤ 9223372036854775807 then (spec_l04Exps.l0 k1 l0 ((x3_1 ++ (⟨#[44, 32]⟩ : ByteArray)) ++ t151) (wrap64 (x4_1 + 1))) else (none)) = some r := H
       have A6 := Aside0.mk A60
       clear A60
       by_cases c7 : (x3_1 ++ (⟨#[44, 32]⟩ : ByteArray)).size + t151.size ≤ 9223372036854775807
       ·rw [if_pos c7] at H
        have c7b0 := eq_true c7
        have c7b1 : decide ((x3_1 ++ (⟨#[44, 32]⟩ : ByteArray)).size + t151.size ≤ 9223372036854775807) = true := decide_eq_true c7
        try have c7b2 : (9223372036854775807 < (x3_1 ++ (⟨#[44, 32]⟩ : ByteArray)).size + t151.size) = False := eq_false (Nat.not_lt.2 c7)
        (try (have c7b0z := c7b0; simp only [ByteArray.size_append] at c7b0z))
        (try (have c7b1z := c7b1; simp only [ByteArray.size_append] at c7b1z))
        (try (have c7b2z := c7b2; simp only [ByteArray.size_append] at c7b2z))
        (try (have c7b2y : (9223372036854775807 < x3_1.size + 2 + t151.size) = False := by (apply eq_false; have hq_ := c7; simp only [ByteArray.size_append, ByteArray.size_extract] at hq_; have hl0_ : (⟨#[44, 32]⟩ : ByteArray).size = 2 := rfl; omega)))
        have H' := Aside0.mk H
        clear H
        have p150 : 0 ≤ (x4_1 : Int) := of_decide_eq_true (by first | (with_reducible assumption) | assumption)
        have q150 : x4_1 < (l0.length : Int) := of_decide_eq_true (by first | (with_reducible assumption) | assumption)
        obtain ⟨ad150, A150_6, c150_6, e150, hx150_0, hx150_1, hx150_2, hx150_3, hx150_4, hx150_5, hx150_6, hl150_6, hi150_6⟩ := at_T32 HR0.out x4_1 p150 q150
        cases e150
        replace hx150_0 := hb_ HB hx150_0
        replace hx150_1 := hb_ HB hx150_1
        replace hx150_2 := hb_ HB hx150_2
        replace hx150_3 := hb_ HB hx150_3
        replace hx150_4 := hb_ HB hx150_4
        replace hx150_5 := hb_ HB hx150_5
        replace hx150_6 := hb_ HB hx150_6
        have HR150_6 := Aside0.mk hi150_6
        have HC150_6 := Aside0.mk hl150_6
        clear hi150_6 hl150_6
        replace p150 := eq_true p150
        replace q150 := eq_true q150
        go_wp2_with (first | ((with_reducible refine gate_callee (f := 8) rfl ?_); refine gsL_ (some 20) Tryd.func8 #[.agg #[.int .i64 ((rd_T32 l0 x4_1).f0), .int .i64 ((rd_T32 l0 x4_1).f1), .int .i64 ((rd_T32 l0 x4_1).f2.f0), .int .i64 ((rd_T32 l0 x4_1).f2.f1), .string ((rd_T32 l0 x4_1).f2.f2), .string ((rd_T32 l0 x4_1).f3), .slice A150_6 ((rd_T32 l0 x4_1).f4).length c150_6]] ?_; (with_reducible refine (spec_ExpText.calls k1 ((rd_T32 l0 x4_1).f0) ((rd_T32 l0 x4_1).f1) ((rd_T32 l0 x4_1).f2.f0) ((rd_T32 l0 x4_1).f2.f1) ((rd_T32 l0 x4_1).f2.f2) ((rd_T32 l0 x4_1).f3) _ _ ((rd_T32 l0 x4_1).f4) t151 _ ?side1 ?side2 A6.out).mono ?_); (case side1 => exact ck_ (Kd.C_below HR150_6.out HB.out)); (case side2 => exact HC150_6.out); rintro e w8 ⟨rfl, hb⟩; refine ⟨_, rfl, ?_⟩; replace HB := bs_ hb; (try clear hb); (try clear hb2); (try clear hk); (try clear hi)))
        go_roundg k1
        case measure => have := HK1.out; omega
        case rel => exact ⟨((x3_1 ++ (⟨#[44, 32]⟩ : ByteArray)) ++ t151), (wrap64 (x4_1 + 1)), rs_, rs_, H', ⟨by have := HK1.out; omega⟩, ⟨bb_⟩⟩
       ·rw [if_neg c7] at H
        exact absurd H (by simp)
      ·rw [if_neg c5] at H
       exact absurd H (by simp)
     ·rw [if_neg c4] at H
      exact absurd H (by simp)
    ·rw [if_neg c3] at H
     have c3b0 : decide (0 < x4_1) = false := decide_eq_false c3
     clear c3
     by_cases c9 : 0 ≤ x4_1
     ·rw [if_pos c9] at H
      have c9b0 : decide (0 ≤ x4_1) = true := decide_eq_true c9
      clear c9
      replace H := Option.bind_eq_some_iff.mp H
      obtain ⟨t153, A100, H⟩ := H
      replace H : (if x3_1.size + t153.size ≤ 9223372036854775807 then (spec_l04Exps.l0 k1 l0 (x3_1 ++ t153) (wrap64 (x4_1 + 1))) else (none)) = some r := H
      have A10 := Aside0.mk A100
      clear A100
      by_cases c11 : x3_1.size + t153.size ≤ 9223372036854775807
      ·rw [if_pos c11] at H
       have c11b0 := eq_true c11
       have c11b1 : decide (x3_1.size + t153.size ≤ 9223372036854775807) = true := decide_eq_true c11
       try have c11b2 : (9223372036854775807 < x3_1.size + t153.size) = False := eq_false (Nat.not_lt.2 c11)
       have H' := Aside0.mk H
       clear H
       have p152 : 0 ≤ (x4_1 : Int) := of_decide_eq_true (by first | (with_reducible assumption) | assumption)
       have q152 : x4_1 < (l0.length : Int) := of_decide_eq_true (by first | (with_reducible assumption) | assumption)
       obtain ⟨ad152, A152_6, c152_6, e152, hx152_0, hx152_1, hx152_2, hx152_3, hx152_4, hx152_5, hx152_6, hl152_6, hi152_6⟩ := at_T32 HR0.out x4_1 p152 q152
       cases e152
       replace hx152_0 := hb_ HB hx152_0
       replace hx152_1 := hb_ HB hx152_1
       replace hx152_2 := hb_ HB hx152_2
       replace hx152_3 := hb_ HB hx152_3
       replace hx152_4 := hb_ HB hx152_4
       replace hx152_5 := hb_ HB hx152_5
       replace hx152_6 := hb_ HB hx152_6
       have HR152_6 := Aside0.mk hi152_6
       have HC152_6 := Aside0.mk hl152_6
       clear hi152_6 hl152_6
       replace p152 := eq_true p152
       replace q152 := eq_true q152
       go_wp2_with (first | ((with_reducible refine gate_callee (f := 8) rfl ?_); refine gsL_ (some 20) Tryd.func8 #[.agg #[.int .i64 ((rd_T32 l0 x4_1).f0), .int .i64 ((rd_T32 l0 x4_1).f1), .int .i64 ((rd_T32 l0 x4_1).f2.f0), .int .i64 ((rd_T32 l0 x4_1).f2.f1), .string ((rd_T32 l0 x4_1).f2.f2), .string ((rd_T32 l0 x4_1).f3), .slice A152_6 ((rd_T32 l0 x4_1).f4).length c152_6]] ?_; (with_reducible refine (spec_ExpText.calls k1 ((rd_T32 l0 x4_1).f0) ((rd_T32 l0 x4_1).f1) ((rd_T32 l0 x4_1).f2.f0) ((rd_T32 l0 x4_1).f2.f1) ((rd_T32 l0 x4_1).f2.f2) ((rd_T32 l0 x4_1).f3) _ _ ((rd_T32 l0 x4_1).f4) t153 _ ?side1 ?side2 A10.out).mono ?_); (case side1 => exact ck_ (Kd.C_below HR152_6.out HB.out)); (case side2 => exact HC152_6.out); rintro e w12 ⟨rfl, hb⟩; refine ⟨_, rfl, ?_⟩; replace HB := bs_ hb; (try clear hb); (try clear hb2); (try clear hk); (try clear hi)))
       go_roundg k1
       case measure => have := HK1.out; omega
       case rel => exact ⟨(x3_1 ++ t153), (wrap64 (x4_1 + 1)), rs_, rs_, H', ⟨by have := HK1.out; omega⟩, ⟨bb_⟩⟩
      ·rw [if_neg c11] at H
       exact absurd H (by simp)
     ·rw [if_neg c9] at H
      exact absurd H (by simp)
   ·rw [if_neg c2] at H
    have c2b0 : decide (x4_1 < (l0.length : Int)) = false := decide_eq_false c2
    clear c2
    by_cases c13 : x3_1.size + 1 ≤ 9223372036854775807
    ·rw [if_pos c13] at H
     have c13b0 := eq_true c13
     have c13b1 : decide (x3_1.size + 1 ≤ 9223372036854775807) = true := decide_eq_true c13
     try have c13b2 : (9223372036854775807 < x3_1.size + 1) = False := eq_false (Nat.not_lt.2 c13)
     obtain rfl := Option.some.inj H
     go_wp2
     go_ret
     exact ⟨er_, bb_⟩
    ·rw [if_neg c13] at H
     exact absurd H (by simp)

end Go.Proofs.YthgdmdabdlgliaaDoor.PFnExactPlanText
