-- WRITTEN BY xprint.py, a program of this session over the kit's printer: by nobody's hand
-- PRESSED
import Derived.Test.YthgdmdabdlgliaaDoorPress
import Derived.Test.YthgdmdabdlgliaaDoorPFnExactExpTextx0
import Derived.Test.YthgdmdabdlgliaaDoorPFnExactExpTextx4
namespace Go.Proofs.YthgdmdabdlgliaaDoor.PFnExactExpText
open Go.RowKit Go.Proofs.YthgdmdabdlgliaaDoorW.PrintWords Go.Proofs.YthgdmdabdlgliaaDoorW.PrintLast Go.Proofs.YthgdmdabdlgliaaDoorW.PrintMore
set_option linter.unusedVariables false
set_option linter.unusedSimpArgs false

/-! ### spec_l03Text: function 45 -/
def spec_l03Text.f : Nat → Int → Int → Int → Int → ByteArray → ByteArray → List (S32) → Option (ByteArray)
 | 0, _, _, _, _, _, _, _ => none
 | k + 1, a0_0, a0_1, a0_2, a0_3, a0_4, a0_5, l0_6 => if a0_0 = 0 then ((spec_DecText.f k a0_1).bind fun t126 => (if 1 + t126.size ≤ 9223372036854775807 then (some ((⟨#[99]⟩ : ByteArray) ++ t126)) else (none))) else (if a0_0 = 1 then ((spec_ValueText.f k a0_2 a0_3 a0_4).bind fun t127 => (some t127)) else (if a0_0 = 2 then (if 0 < (l0_6.length : Int) then ((spec_l03Text.f k ((rd_T32 l0_6 0).f0) ((rd_T32 l0_6 0).f1) ((rd_T32 l0_6 0).f2.f0) ((rd_T32 l0_6 0).f2.f1) ((rd_T32 l0_6 0).f2.f2) ((rd_T32 l0_6 0).f3) ((rd_T32 l0_6 0).f4)).bind fun t129 => (if 1 + t129.size ≤ 9223372036854775807 then (if ((⟨#[40]⟩ : ByteArray) ++ t129).size + 1 ≤ 9223372036854775807 then (if (((⟨#[40]⟩ : ByteArray) ++ t129) ++ (⟨#[32]⟩ : ByteArray)).size + a0_5.size ≤ 9223372036854775807 then (if ((((⟨#[40]⟩ : ByteArray) ++ t129) ++ (⟨#[32]⟩ : ByteArray)) ++ a0_5).size + 1 ≤ 9223372036854775807 then (if 1 < (l0_6.length : Int) then ((spec_l03Text.f k ((rd_T32 l0_6 1).f0) ((rd_T32 l0_6 1).f1) ((rd_T32 l0_6 1).f2.f0) ((rd_T32 l0_6 1).f2.f1) ((rd_T32 l0_6 1).f2.f2) ((rd_T32 l0_6 1).f3) ((rd_T32 l0_6 1).f4)).bind fun t131 => (if (((((⟨#[40]⟩ : ByteArray) ++ t129) ++ (⟨#[32]⟩ : ByteArray)) ++ a0_5) ++ (⟨#[32]⟩ : ByteArray)).size + t131.size ≤ 9223372036854775807 then (if ((((((⟨#[40]⟩ : ByteArray) ++ t129) ++ (⟨#[32]⟩ : ByteArray)) ++ a0_5) ++ (⟨#[32]⟩ : ByteArray)) ++ t131).size + 1 ≤ 9223372036854775807 then (some (((((((⟨#[40]⟩ : ByteArray) ++ t129) ++ (⟨#[32]⟩ : ByteArray)) ++ a0_5) ++ (⟨#[32]⟩ : ByteArray)) ++ t131) ++ (⟨#[41]⟩ : ByteArray))) else (none)) else (none))) else (none)) else (none)) else (none)) else (none)) else (none))) else (none)) else (if a0_0 = 3 then (if 0 < (l0_6.length : Int) then ((spec_l03Text.f k ((rd_T32 l0_6 0).f0) ((rd_T32 l0_6 0).f1) ((rd_T32 l0_6 0).f2.f0) ((rd_T32 l0_6 0).f2.f1) ((rd_T32 l0_6 0).f2.f2) ((rd_T32 l0_6 0).f3) ((rd_T32 l0_6 0).f4)).bind fun t133 => (if 4 + t133.size ≤ 9223372036854775807 then (if ((⟨#[110, 111, 116, 40]⟩ : ByteArray) ++ t133).size + 1 ≤ 9223372036854775807 then (some (((⟨#[110, 111, 116, 40]⟩ : ByteArray) ++ t133) ++ (⟨#[41]⟩ : ByteArray))) else (none)) else (none))) else (none)) else (if 0 < (l0_6.length : Int) then ((spec_l03Text.f k ((rd_T32 l0_6 0).f0) ((rd_T32 l0_6 0).f1) ((rd_T32 l0_6 0).f2.f0) ((rd_T32 l0_6 0).f2.f1) ((rd_T32 l0_6 0).f2.f2) ((rd_T32 l0_6 0).f3) ((rd_T32 l0_6 0).f4)).bind fun t135 => (if 7 + t135.size ≤ 9223372036854775807 then (if ((⟨#[105, 115, 110, 117, 108, 108, 40]⟩ : ByteArray) ++ t135).size + 1 ≤ 9223372036854775807 then (some (((⟨#[105, 115, 110, 117, 108, 108, 40]⟩ : ByteArray) ++ t135) ++ (⟨#[41]⟩ : ByteArray))) else (none)) else (none))) else (none)))))
def spec_l03Text.T7 : Bool × List (List Nat × List Nat) := (true, [([], []), ([0], [0]), ([1], [1]), ([2], [2]), ([3], [3]), ([4], [4]), ([5], [5]), ([], []), ([7], [7]), ([6, 8], [6, 8]), ([9], [9]), ([], []), ([11], [11]), ([12], [12]), ([13], [13]), ([14, 4], [14]), ([10, 15], [10, 15]), ([16], [16]), ([17, 15, 0, 1, 2, 3, 4, 5, 6, 7, 8, 9, 10, 11, 12, 13, 14, 15, 16, 17], [17])])
def spec_l03Text.B7 : List Nat := [0, 1, 3, 7, 15, 31, 63, 0, 128, 511, 1023, 0, 2048, 6144, 14336, 30751, 65535, 131071, 262143]
theorem spec_l03Text.tab7 : rtab .any (opsOf Tryd.f45 7) = spec_l03Text.T7 := by kernel_rfl
theorem spec_l03Text.bits7 : waitsOk spec_l03Text.T7.2 spec_l03Text.B7 = true := by kernel_rfl
set_option maxHeartbeats 8000000 in
set_option maxRecDepth 100000 in
theorem spec_l03Text.calls (k : Nat) : ∀ (a0_0 : Int) (a0_1 : Int) (a0_2 : Int) (a0_3 : Int) (a0_4 : ByteArray) (a0_5 : ByteArray) (A0_6 : Option Addr) (c0_6 : Nat) (l0_6 : List (S32)) (r : ByteArray) (w : World) (hr0_6 : Kd.C k32 w A0_6 l0_6.length l0_6) (hc0_6 : l0_6.length ≤ c0_6) (h : spec_l03Text.f k a0_0 a0_1 a0_2 a0_3 a0_4 a0_5 l0_6 = some r),
  Calls Tryd.prog 45 #[.agg #[.int .i64 a0_0, .int .i64 a0_1, .int .i64 a0_2, .int .i64 a0_3, .string a0_4, .string a0_5, .slice A0_6 l0_6.length c0_6]] w fun e w' => e = .returned (.string r) ∧ Below w.heap.size w w' := by
 induction k using Nat.strongRecOn with
 | _ k ih =>
 intro a0_0 a0_1 a0_2 a0_3 a0_4 a0_5 A0_6 c0_6 l0_6 r w hr0_6 hc0_6 h
 cases k with
 | zero => exact absurd h (by simp [spec_l03Text.f])
 | succ k =>
 simp only [spec_l03Text.f] at h
 have hu32 := Tryd.underlying32
 have hu29 := Tryd.underlying29
 have HR0_6 := Aside0.mk hr0_6
 have HC0_6 := Aside0.mk hc0_6
 clear hr0_6 hc0_6
 have HB := Aside0.mk (Below.refl w.heap.size w)
 have H : (if a0_0 = 0 then ((spec_DecText.f k a0_1).bind fun t126 => (if 1 + t126.size ≤ 9223372036854775807 then (some ((⟨#[99]⟩ : ByteArray) ++ t126)) else (none))) else (if a0_0 = 1 then ((spec_ValueText.f k a0_2 a0_3 a0_4).bind fun t127 => (some t127)) else (if a0_0 = 2 then (if 0 < (l0_6.length : Int) then ((spec_l03Text.f k ((rd_T32 l0_6 0).f0) ((rd_T32 l0_6 0).f1) ((rd_T32 l0_6 0).f2.f0) ((rd_T32 l0_6 0).f2.f1) ((rd_T32 l0_6 0).f2.f2) ((rd_T32 l0_6 0).f3) ((rd_T32 l0_6 0).f4)).bind fun t129 => (if 1 + t129.size ≤ 9223372036854775807 then (if ((⟨#[40]⟩ : ByteArray) ++ t129).size + 1 ≤ 9223372036854775807 then (if (((⟨#[40]⟩ : ByteArray) ++ t129) ++ (⟨#[32]⟩ : ByteArray)).size + a0_5.size ≤ 9223372036854775807 then (if ((((⟨#[40]⟩ : ByteArray) ++ t129) ++ (⟨#[32]⟩ : ByteArray)) ++ a0_5).size + 1 ≤ 9223372036854775807 then (if 1 < (l0_6.length : Int) then ((spec_l03Text.f k ((rd_T32 l0_6 1).f0) ((rd_T32 l0_6 1).f1) ((rd_T32 l0_6 1).f2.f0) ((rd_T32 l0_6 1).f2.f1) ((rd_T32 l0_6 1).f2.f2) ((rd_T32 l0_6 1).f3) ((rd_T32 l0_6 1).f4)).bind fun t131 => (if (((((⟨#[40]⟩ : ByteArray) ++ t129) ++ (⟨#[32]⟩ : ByteArray)) ++ a0_5) ++ (⟨#[32]⟩ : ByteArray)).size + t131.size ≤ 9223372036854775807 then (if ((((((⟨#[40]⟩ : ByteArray) ++ t129) ++ (⟨#[32]⟩ : ByteArray)) ++ a0_5) ++ (⟨#[32]⟩ : ByteArray)) ++ t131).size + 1 ≤ 9223372036854775807 then (some (((((((⟨#[40]⟩ : ByteArray) ++ t129) ++ (⟨#[32]⟩ : ByteArray)) ++ a0_5) ++ (⟨#[32]⟩ : ByteArray)) ++ t131) ++ (⟨#[41]⟩ : ByteArray))) else (none)) else (none))) else (none)) else (none)) else (none)) else (none)) else (none))) else (none)) else (if a0_0 = 3 then (if 0 < (l0_6.length : Int) then ((spec_l03Text.f k ((rd_T32 l0_6 0).f0) ((rd_T32 l0_6 0).f1) ((rd_T32 l0_6 0).f2.f0) ((rd_T32 l0_6 0).f2.f1) ((rd_T32 l0_6 0).f2.f2) ((rd_T32 l0_6 0).f3) ((rd_T32 l0_6 0).f4)).bind fun t133 => (if 4 + t133.size ≤ 9223372036854775807 then (if ((⟨#[110, 111, 116, 40]⟩ : ByteArray) ++ t133).size + 1 ≤ 9223372036854775807 then (some (((⟨#[110, 111, 116, 40]⟩ : ByteArray) ++ t133) ++ (⟨#[41]⟩ : ByteArray))) else (none)) else (none))) else (none)) else (if 0 < (l0_6.length : Int) then ((spec_l03Text.f k ((rd_T32 l0_6 0).f0) ((rd_T32 l0_6 0).f1) ((rd_T32 l0_6 0).f2.f0) ((rd_T32 l0_6 0).f2.f1) ((rd_T32 l0_6 0).f2.f2) ((rd_T32 l0_6 0).f3) ((rd_T32 l0_6 0).f4)).bind fun t135 => (if 7 + t135.size ≤ 9223372036854775807 then (if ((⟨#[105, 115, 110, 117, 108, 108, 40]⟩ : ByteArray) ++ t135).size + 1 ≤ 9223372036854775807 then (some (((⟨#[105, 115, 110, 117, 108, 108, 40]⟩ : ByteArray) ++ t135) ++ (⟨#[41]⟩ : ByteArray))) else (none)) else (none))) else (none)))))) = some r := h
 clear h
 by_cases c2 : a0_0 = 0
 ·rw [if_pos c2] at H
  have c2b0 : (a0_0 == 0) = true := beq_iff_eq.mpr c2
  have c2b1 : (a0_0 != 0) = false := bne_eq_false_iff_eq.mpr c2
  clear c2
  replace H := Option.bind_eq_some_iff.mp H
  obtain ⟨t126, A30, H⟩ := H
  replace H : (if 1 + t126.size ≤ 9223372036854775807 then (some ((⟨#[99]⟩ : ByteArray) ++ t126)) else (none)) = some r := H
  have A3 := Aside0.mk A30
  clear A30
  by_cases c4 : 1 + t126.size ≤ 9223372036854775807
  ·rw [if_pos c4] at H
   have c4b0 := eq_true c4
   have c4b1 : decide (1 + t126.size ≤ 9223372036854775807) = true := decide_eq_true c4
   try have c4b2 : (9223372036854775807 < 1 + t126.size) = False := eq_false (Nat.not_lt.2 c4)
   obtain rfl := Option.some.inj H
   go_enter Tryd.func45, Tryd.ntmps45
   go_wp2_with (first | ((with_reducible refine gate_dst (N := 1) rfl ?_); refine bx_ 1 #[.int .i64 a0_0, .int .i64 a0_1, .int .i64 a0_2, .int .i64 a0_3, .string a0_4, .string a0_5, .slice A0_6 l0_6.length c0_6] 32 ?_; intro gb125 hg w5 hbox hb; have BK125 := Aside0.mk (hbox); have GW125 := gw_ hg; have GE125 := gw_ hg; replace HB := bs_ hb; clear hb hbox hg; obtain ⟨hcz6_0, hcz6_1, hcz6_2, hcz6_3, hcz6_4, hcz6_5, hcz6_6, hfz6_0, hfz6_1, hfz6_2, hfz6_3, hfz6_4, hfz6_5, hfz6_6⟩ := b7_ BK125) | ((with_reducible refine gate_callee (f := 31) rfl ?_); refine gsL_ (some 9) Tryd.func31 #[.int .i64 a0_1] ?_; (with_reducible refine (spec_DecText.calls k a0_1 t126 _ A3.out).mono ?_); rintro e w' ⟨rfl, ⟨nd, rfl⟩⟩; refine ⟨_, rfl, ?_⟩))
   go_ret
   exact ⟨er_, bb_⟩
  ·rw [if_neg c4] at H
   exact absurd H (by simp)
 ·rw [if_neg c2] at H
  have c2b0 : (a0_0 == 0) = false := beq_eq_false_iff_ne.mpr c2
  have c2b1 : (a0_0 != 0) = true := bne_iff_ne.mpr c2
  by_cases c7 : a0_0 = 1
  ·rw [if_pos c7] at H
   have c7b0 : (a0_0 == 1) = true := beq_iff_eq.mpr c7
   have c7b1 : (a0_0 != 1) = false := bne_eq_false_iff_eq.mpr c7
   clear c7
   replace H := Option.bind_eq_some_iff.mp H
   obtain ⟨t127, A80, H⟩ := H
   replace H : (some t127) = some r := H
   have A8 := Aside0.mk A80
   clear A80
   obtain rfl := Option.some.inj H
   go_enter Tryd.func45, Tryd.ntmps45
   go_wp2_with (first | ((with_reducible refine gate_dst (N := 1) rfl ?_); refine bx_ 1 #[.int .i64 a0_0, .int .i64 a0_1, .int .i64 a0_2, .int .i64 a0_3, .string a0_4, .string a0_5, .slice A0_6 l0_6.length c0_6] 32 ?_; intro gb125 hg w9 hbox hb; have BK125 := Aside0.mk (hbox); have GW125 := gw_ hg; have GE125 := gw_ hg; replace HB := bs_ hb; clear hb hbox hg; obtain ⟨hcz10_0, hcz10_1, hcz10_2, hcz10_3, hcz10_4, hcz10_5, hcz10_6, hfz10_0, hfz10_1, hfz10_2, hfz10_3, hfz10_4, hfz10_5, hfz10_6⟩ := b7_ BK125) | ((with_reducible refine gate_callee (f := 27) rfl ?_); refine gsL_ (some 15) Tryd.func27 #[.agg #[.int .i64 a0_2, .int .i64 a0_3, .string a0_4]] ?_; (with_reducible refine (spec_ValueText.calls k a0_2 a0_3 a0_4 t127 _ A8.out).mono ?_); rintro e w11 ⟨rfl, hb⟩; refine ⟨_, rfl, ?_⟩; replace BK125 := bkb_ BK125 hb; replace HB := bs_ hb; (try clear hb); (try clear hb2); (try clear hk); (try clear hi)))
   go_ret
   exact ⟨er_, bb_⟩
  ·rw [if_neg c7] at H
   have c7b0 : (a0_0 == 1) = false := beq_eq_false_iff_ne.mpr c7
   have c7b1 : (a0_0 != 1) = true := bne_iff_ne.mpr c7
   by_cases c12 : a0_0 = 2
   ·rw [if_pos c12] at H
    have c12b0 : (a0_0 == 2) = true := beq_iff_eq.mpr c12
    have c12b1 : (a0_0 != 2) = false := bne_eq_false_iff_eq.mpr c12
    clear c12
    by_cases c13 : 0 < (l0_6.length : Int)
    ·rw [if_pos c13] at H
     have c13b0 : decide (0 < (l0_6.length : Int)) = true := decide_eq_true c13
     have c13b1 : decide (0 < l0_6.length) = true := decide_eq_true (by omega)
     clear c13
     replace H := Option.bind_eq_some_iff.mp H
     obtain ⟨t129, A140, H⟩ := H
     replace H : (if 1 + t129.size ≤ 9223372036854775807 then (if ((⟨#[40]⟩ : ByteArray) ++ t129).size + 1 ≤ 9223372036854775807 then (if (((⟨#[40]⟩ : ByteArray) ++ t129) ++ (⟨#[32]⟩ : ByteArray)).size + a0_5.size ≤ 9223372036854775807 then (if ((((⟨#[40]⟩ : ByteArray) ++ t129) ++ (⟨#[32]⟩ : ByteArray)) ++ a0_5).size + 1 ≤ 9223372036854775807 then (if 1 < (l0_6.length : Int) then ((spec_l03Text.f k ((rd_T32 l0_6 1).f0) ((rd_T32 l0_6 1).f1) ((rd_T32 l0_6 1).f2.f0) ((rd_T32 l0_6 1).f2.f1) ((rd_T32 l0_6 1).f2.f2) ((rd_T32 l0_6 1).f3) ((rd_T32 l0_6 1).f4)).bind fun t131 => (if (((((⟨#[40]⟩ : ByteArray) ++ t129) ++ (⟨#[32]⟩ : ByteArray)) ++ a0_5) ++ (⟨#[32]⟩ : ByteArray)).size + t131.size ≤ 9223372036854775807 then (if ((((((⟨#[40]⟩ : ByteArray) ++ t129) ++ (⟨#[32]⟩ : ByteArray)) ++ a0_5) ++ (⟨#[32]⟩ : ByteArray)) ++ t131).size + 1 ≤ 9223372036854775807 then (some (((((((⟨#[40]⟩ : ByteArray) ++ t129) ++ (⟨#[32]⟩ : ByteArray)) ++ a0_5) ++ (⟨#[32]⟩ : ByteArray)) ++ t131) ++ (⟨#[41]⟩ : ByteArray))) else (none)) else (none))) else (none)) else (none)) else (none)) else (none)) else (none)) = some r := H
     have A14 := Aside0.mk A140
     clear A140
     by_cases c15 : 1 + t129.size ≤ 9223372036854775807
     ·rw [if_pos c15] at H
      have c15b0 := eq_true c15
      have c15b1 : decide (1 + t129.size ≤ 9223372036854775807) = true := decide_eq_true c15
      try have c15b2 : (9223372036854775807 < 1 + t129.size) = False := eq_false (Nat.not_lt.2 c15)
      by_cases c16 : ((⟨#[40]⟩ : ByteArray) ++ t129).size + 1 ≤ 9223372036854775807
      ·rw [if_pos c16] at H
       have c16b0 := eq_true c16
       have c16b1 : decide (((⟨#[40]⟩ : ByteArray) ++ t129).size + 1 ≤ 9223372036854775807) = true := decide_eq_true c16
       try have c16b2 : (9223372036854775807 < ((⟨#[40]⟩ : ByteArray) ++ t129).size + 1) = False := eq_false (Nat.not_lt.2 c16)
       (try (have c16b0z := c16b0; simp only [ByteArray.size_append] at c16b0z))
       (try (have c16b1z := c16b1; simp only [ByteArray.size_append] at c16b1z))
       (try (have c16b2z := c16b2; simp only [ByteArray.size_append] at c16b2z))
       (try (have c16b2y : (9223372036854775807 < 1 + t129.size + 1) = False := by (apply eq_false; have hq_ := c16; simp only [ByteArray.size_append, ByteArray.size_extract] at hq_; have hl0_ : (⟨#[40]⟩ : ByteArray).size = 1 := rfl; omega)))
       by_cases c17 : (((⟨#[40]⟩ : ByteArray) ++ t129) ++ (⟨#[32]⟩ : ByteArray)).size + a0_5.size ≤ 9223372036854775807
       ·rw [if_pos c17] at H
        have c17b0 := eq_true c17
        have c17b1 : decide ((((⟨#[40]⟩ : ByteArray) ++ t129) ++ (⟨#[32]⟩ : ByteArray)).size + a0_5.size ≤ 9223372036854775807) = true := decide_eq_true c17
        try have c17b2 : (9223372036854775807 < (((⟨#[40]⟩ : ByteArray) ++ t129) ++ (⟨#[32]⟩ : ByteArray)).size + a0_5.size) = False := eq_false (Nat.not_lt.2 c17)
        (try (have c17b0z := c17b0; simp only [ByteArray.size_append] at c17b0z))
        (try (have c17b1z := c17b1; simp only [ByteArray.size_append] at c17b1z))
        (try (have c17b2z := c17b2; simp only [ByteArray.size_append] at c17b2z))
        (try (have c17b2y : (9223372036854775807 < 1 + t129.size + 1 + a0_5.size) = False := by (apply eq_false; have hq_ := c17; simp only [ByteArray.size_append, ByteArray.size_extract] at hq_; have hl0_ : (⟨#[40]⟩ : ByteArray).size = 1 := rfl; have hl1_ : (⟨#[32]⟩ : ByteArray).size = 1 := rfl; omega)))
        by_cases c18 : ((((⟨#[40]⟩ : ByteArray) ++ t129) ++ (⟨#[32]⟩ : ByteArray)) ++ a0_5).size + 1 ≤ 9223372036854775807
        ·rw [if_pos c18] at H
         have c18b0 := eq_true c18
         have c18b1 : decide (((((⟨#[40]⟩ : ByteArray) ++ t129) ++ (⟨#[32]⟩ : ByteArray)) ++ a0_5).size + 1 ≤ 9223372036854775807) = true := decide_eq_true c18
         try have c18b2 : (9223372036854775807 < ((((⟨#[40]⟩ : ByteArray) ++ t129) ++ (⟨#[32]⟩ : ByteArray)) ++ a0_5).size + 1) = False := eq_false (Nat.not_lt.2 c18)
         (try (have c18b0z := c18b0; simp only [ByteArray.size_append] at c18b0z))
         (try (have c18b1z := c18b1; simp only [ByteArray.size_append] at c18b1z))
         (try (have c18b2z := c18b2; simp only [ByteArray.size_append] at c18b2z))
         (try (have c18b2y : (9223372036854775807 < 1 + t129.size + 1 + a0_5.size + 1) = False := by (apply eq_false; have hq_ := c18; simp only [ByteArray.size_append, ByteArray.size_extract] at hq_; have hl0_ : (⟨#[40]⟩ : ByteArray).size = 1 := rfl; have hl1_ : (⟨#[32]⟩ : ByteArray).size = 1 := rfl; omega)))
         by_cases c19 : 1 < (l0_6.length : Int)
         ·rw [if_pos c19] at H
          have c19b0 : decide (1 < (l0_6.length : Int)) = true := decide_eq_true c19
          have c19b1 : decide (1 < l0_6.length) = true := decide_eq_true (by omega)
          clear c19
          replace H := Option.bind_eq_some_iff.mp H
          obtain ⟨t131, A200, H⟩ := H
          replace H : (if (((((⟨#[40]⟩ : ByteArray) ++ t129) ++ (⟨#[32]⟩ : ByteArray)) ++ a0_5) ++ (⟨#[32]⟩ : ByteArray)).size + t131.size ≤ 9223372036854775807 then (if ((((((⟨#[40]⟩ : ByteArray) ++ t129) ++ (⟨#[32]⟩ : ByteArray)) ++ a0_5) ++ (⟨#[32]⟩ : ByteArray)) ++ t131).size + 1 ≤ 9223372036854775807 then (some (((((((⟨#[40]⟩ : ByteArray) ++ t129) ++ (⟨#[32]⟩ : ByteArray)) ++ a0_5) ++ (⟨#[32]⟩ : ByteArray)) ++ t131) ++ (⟨#[41]⟩ : ByteArray))) else (none)) else (none)) = some r := H
          have A20 := Aside0.mk A200
          clear A200
          by_cases c21 : (((((⟨#[40]⟩ : ByteArray) ++ t129) ++ (⟨#[32]⟩ : ByteArray)) ++ a0_5) ++ (⟨#[32]⟩ : ByteArray)).size + t131.size ≤ 9223372036854775807
          ·rw [if_pos c21] at H
           have c21b0 := eq_true c21
           have c21b1 : decide ((((((⟨#[40]⟩ : ByteArray) ++ t129) ++ (⟨#[32]⟩ : ByteArray)) ++ a0_5) ++ (⟨#[32]⟩ : ByteArray)).size + t131.size ≤ 9223372036854775807) = true := decide_eq_true c21
           try have c21b2 : (9223372036854775807 < (((((⟨#[40]⟩ : ByteArray) ++ t129) ++ (⟨#[32]⟩ : ByteArray)) ++ a0_5) ++ (⟨#[32]⟩ : ByteArray)).size + t131.size) = False := eq_false (Nat.not_lt.2 c21)
           (try (have c21b0z := c21b0; simp only [ByteArray.size_append] at c21b0z))
           (try (have c21b1z := c21b1; simp only [ByteArray.size_append] at c21b1z))
           (try (have c21b2z := c21b2; simp only [ByteArray.size_append] at c21b2z))
           (try (have c21b2y : (9223372036854775807 < 1 + t129.size + 1 + a0_5.size + 1 + t131.size) = False := by (apply eq_false; have hq_ := c21; simp only [ByteArray.size_append, ByteArray.size_extract] at hq_; have hl0_ : (⟨#[40]⟩ : ByteArray).size = 1 := rfl; have hl1_ : (⟨#[32]⟩ : ByteArray).size = 1 := rfl; omega)))
           by_cases c22 : ((((((⟨#[40]⟩ : ByteArray) ++ t129) ++ (⟨#[32]⟩ : ByteArray)) ++ a0_5) ++ (⟨#[32]⟩ : ByteArray)) ++ t131).size + 1 ≤ 9223372036854775807
           ·rw [if_pos c22] at H
            have c22b0 := eq_true c22
            have c22b1 : decide (((((((⟨#[40]⟩ : ByteArray) ++ t129) ++ (⟨#[32]⟩ : ByteArray)) ++ a0_5) ++ (⟨#[32]⟩ : ByteArray)) ++ t131).size + 1 ≤ 9223372036854775807) = true := decide_eq_true c22
            try have c22b2 : (9223372036854775807 < ((((((⟨#[40]⟩ : ByteArray) ++ t129) ++ (⟨#[32]⟩ : ByteArray)) ++ a0_5) ++ (⟨#[32]⟩ : ByteArray)) ++ t131).size + 1) = False := eq_false (Nat.not_lt.2 c22)
            (try (have c22b0z := c22b0; simp only [ByteArray.size_append] at c22b0z))
            (try (have c22b1z := c22b1; simp only [ByteArray.size_append] at c22b1z))
            (try (have c22b2z := c22b2; simp only [ByteArray.size_append] at c22b2z))
            (try (have c22b2y : (9223372036854775807 < 1 + t129.size + 1 + a0_5.size + 1 + t131.size + 1) = False := by (apply eq_false; have hq_ := c22; simp only [ByteArray.size_append, ByteArray.size_extract] at hq_; have hl0_ : (⟨#[40]⟩ : ByteArray).size = 1 := rfl; have hl1_ : (⟨#[32]⟩ : ByteArray).size = 1 := rfl; omega)))
            obtain rfl := Option.some.inj H
            go_enter Tryd.func45, Tryd.ntmps45
            try go_wp2_with (first | ((with_reducible refine gate_dst (N := 1) rfl ?_); refine bx_ 1 #[.int .i64 a0_0, .int .i64 a0_1, .int .i64 a0_2, .int .i64 a0_3, .string a0_4, .string a0_5, .slice A0_6 l0_6.length c0_6] 32 ?_; intro gb125 hg w23 hbox hb; have BK125 := Aside0.mk (hbox); have GW125 := gw_ hg; have GE125 := gw_ hg; replace HB := bs_ hb; clear hb hbox hg; obtain ⟨hcz24_0, hcz24_1, hcz24_2, hcz24_3, hcz24_4, hcz24_5, hcz24_6, hfz24_0, hfz24_1, hfz24_2, hfz24_3, hfz24_4, hfz24_5, hfz24_6⟩ := b7_ BK125))
            replace BK125 := Aside0.mk (blk_drew BK125.out)
            replace HB := Aside0.mk (below_drew1 HB.out)
            have p128 : 0 ≤ (0 : Int) := (by omega)
            have q128 : 0 < (l0_6.length : Int) := of_decide_eq_true (by first | (with_reducible assumption) | assumption)
            obtain ⟨ad128, A128_6, c128_6, e128, hx128_0, hx128_1, hx128_2, hx128_3, hx128_4, hx128_5, hx128_6, hl128_6, hi128_6⟩ := at_T32 HR0_6.out 0 p128 q128
            have hw128_6 := hx128_6
            (try rw [show ((0 : Int)).toNat = 0 from rfl] at hw128_6)
            (try rw [show 0 * 7 = 0 from rfl] at hw128_6)
            (try rw [Addr.add_zero'] at hw128_6)
            have hw128_5 := hx128_5
            (try rw [show ((0 : Int)).toNat = 0 from rfl] at hw128_5)
            (try rw [show 0 * 7 = 0 from rfl] at hw128_5)
            (try rw [Addr.add_zero'] at hw128_5)
            have hw128_4 := hx128_4
            (try rw [show ((0 : Int)).toNat = 0 from rfl] at hw128_4)
            (try rw [show 0 * 7 = 0 from rfl] at hw128_4)
            (try rw [Addr.add_zero'] at hw128_4)
            have hw128_3 := hx128_3
            (try rw [show ((0 : Int)).toNat = 0 from rfl] at hw128_3)
            (try rw [show 0 * 7 = 0 from rfl] at hw128_3)
            (try rw [Addr.add_zero'] at hw128_3)
            have hw128_2 := hx128_2
            (try rw [show ((0 : Int)).toNat = 0 from rfl] at hw128_2)
            (try rw [show 0 * 7 = 0 from rfl] at hw128_2)
            (try rw [Addr.add_zero'] at hw128_2)
            have hw128_1 := hx128_1
            (try rw [show ((0 : Int)).toNat = 0 from rfl] at hw128_1)
            (try rw [show 0 * 7 = 0 from rfl] at hw128_1)
            (try rw [Addr.add_zero'] at hw128_1)
            have hw128_0 := hx128_0
            (try rw [show ((0 : Int)).toNat = 0 from rfl] at hw128_0)
            (try rw [show 0 * 7 = 0 from rfl] at hw128_0)
            (try rw [Addr.add_zero'] at hw128_0)
            cases e128
            have qi128 : (0 < l0_6.length) = True := eq_true (by omega)
            (try rw [show ((0 : Int)).toNat = 0 from rfl] at hx128_0)
            (try rw [show 0 * 7 = 0 from rfl] at hx128_0)
            (try rw [Addr.add_zero'] at hx128_0)
            (try rw [show ((0 : Int)).toNat = 0 from rfl] at hx128_1)
            (try rw [show 0 * 7 = 0 from rfl] at hx128_1)
            (try rw [Addr.add_zero'] at hx128_1)
            (try rw [show ((0 : Int)).toNat = 0 from rfl] at hx128_2)
            (try rw [show 0 * 7 = 0 from rfl] at hx128_2)
            (try rw [Addr.add_zero'] at hx128_2)
            (try rw [show ((0 : Int)).toNat = 0 from rfl] at hx128_3)
            (try rw [show 0 * 7 = 0 from rfl] at hx128_3)
            (try rw [Addr.add_zero'] at hx128_3)
            (try rw [show ((0 : Int)).toNat = 0 from rfl] at hx128_4)
            (try rw [show 0 * 7 = 0 from rfl] at hx128_4)
            (try rw [Addr.add_zero'] at hx128_4)
            (try rw [show ((0 : Int)).toNat = 0 from rfl] at hx128_5)
            (try rw [show 0 * 7 = 0 from rfl] at hx128_5)
            (try rw [Addr.add_zero'] at hx128_5)
            (try rw [show ((0 : Int)).toNat = 0 from rfl] at hx128_6)
            (try rw [show 0 * 7 = 0 from rfl] at hx128_6)
            (try rw [Addr.add_zero'] at hx128_6)
            replace hx128_0 := hb_ HB hx128_0
            replace hx128_1 := hb_ HB hx128_1
            replace hx128_2 := hb_ HB hx128_2
            replace hx128_3 := hb_ HB hx128_3
            replace hx128_4 := hb_ HB hx128_4
            replace hx128_5 := hb_ HB hx128_5
            replace hx128_6 := hb_ HB hx128_6
            have HR128_6 := Aside0.mk hi128_6
            have HC128_6 := Aside0.mk hl128_6
            clear hi128_6 hl128_6
            replace p128 := eq_true p128
            replace q128 := eq_true q128
            have p130 : 0 ≤ (1 : Int) := (by omega)
            have q130 : 1 < (l0_6.length : Int) := of_decide_eq_true (by first | (with_reducible assumption) | assumption)
            obtain ⟨ad130, A130_6, c130_6, e130, hx130_0, hx130_1, hx130_2, hx130_3, hx130_4, hx130_5, hx130_6, hl130_6, hi130_6⟩ := at_T32 HR0_6.out 1 p130 q130
            have hw130_6 := hx130_6
            (try rw [show ((1 : Int)).toNat = 1 from rfl] at hw130_6)
            (try rw [show 1 * 7 = 7 from rfl] at hw130_6)
            (try simp only [Nat.reduceMul, Nat.reduceEqDiff, Go.Addr.add, ↓reduceIte] at hw130_6)
            have hw130_5 := hx130_5
            (try rw [show ((1 : Int)).toNat = 1 from rfl] at hw130_5)
            (try rw [show 1 * 7 = 7 from rfl] at hw130_5)
            (try simp only [Nat.reduceMul, Nat.reduceEqDiff, Go.Addr.add, ↓reduceIte] at hw130_5)
            have hw130_4 := hx130_4
            (try rw [show ((1 : Int)).toNat = 1 from rfl] at hw130_4)
            (try rw [show 1 * 7 = 7 from rfl] at hw130_4)
            (try simp only [Nat.reduceMul, Nat.reduceEqDiff, Go.Addr.add, ↓reduceIte] at hw130_4)
            have hw130_3 := hx130_3
            (try rw [show ((1 : Int)).toNat = 1 from rfl] at hw130_3)
            (try rw [show 1 * 7 = 7 from rfl] at hw130_3)
            (try simp only [Nat.reduceMul, Nat.reduceEqDiff, Go.Addr.add, ↓reduceIte] at hw130_3)
            have hw130_2 := hx130_2
            (try rw [show ((1 : Int)).toNat = 1 from rfl] at hw130_2)
            (try rw [show 1 * 7 = 7 from rfl] at hw130_2)
            (try simp only [Nat.reduceMul, Nat.reduceEqDiff, Go.Addr.add, ↓reduceIte] at hw130_2)
            have hw130_1 := hx130_1
            (try rw [show ((1 : Int)).toNat = 1 from rfl] at hw130_1)
            (try rw [show 1 * 7 = 7 from rfl] at hw130_1)
            (try simp only [Nat.reduceMul, Nat.reduceEqDiff, Go.Addr.add, ↓reduceIte] at hw130_1)
            have hw130_0 := hx130_0
            (try rw [show ((1 : Int)).toNat = 1 from rfl] at hw130_0)
            (try rw [show 1 * 7 = 7 from rfl] at hw130_0)
            (try simp only [Nat.reduceMul, Nat.reduceEqDiff, Go.Addr.add, ↓reduceIte] at hw130_0)
            obtain rfl : ad128 = ad130 := (by injection e130)
            (try simp only [show (1 : Int).toNat = 1 from rfl, Nat.reduceMul, Nat.reduceEqDiff, Go.Addr.add, ↓reduceIte] at hx130_0)
            (try simp only [show (1 : Int).toNat = 1 from rfl, Nat.reduceMul, Nat.reduceEqDiff, Go.Addr.add, ↓reduceIte] at hx130_1)
            (try simp only [show (1 : Int).toNat = 1 from rfl, Nat.reduceMul, Nat.reduceEqDiff, Go.Addr.add, ↓reduceIte] at hx130_2)
            (try simp only [show (1 : Int).toNat = 1 from rfl, Nat.reduceMul, Nat.reduceEqDiff, Go.Addr.add, ↓reduceIte] at hx130_3)
            (try simp only [show (1 : Int).toNat = 1 from rfl, Nat.reduceMul, Nat.reduceEqDiff, Go.Addr.add, ↓reduceIte] at hx130_4)
            (try simp only [show (1 : Int).toNat = 1 from rfl, Nat.reduceMul, Nat.reduceEqDiff, Go.Addr.add, ↓reduceIte] at hx130_5)
            (try simp only [show (1 : Int).toNat = 1 from rfl, Nat.reduceMul, Nat.reduceEqDiff, Go.Addr.add, ↓reduceIte] at hx130_6)
            have qi130 : (1 < l0_6.length) = True := eq_true (by omega)
            (try rw [show ((1 : Int)).toNat = 1 from rfl] at hx130_0)
            (try rw [show 1 * 7 = 7 from rfl] at hx130_0)
            (try rw [show ((1 : Int)).toNat = 1 from rfl] at hx130_1)
            (try rw [show 1 * 7 = 7 from rfl] at hx130_1)
            (try rw [show ((1 : Int)).toNat = 1 from rfl] at hx130_2)
            (try rw [show 1 * 7 = 7 from rfl] at hx130_2)
            (try rw [show ((1 : Int)).toNat = 1 from rfl] at hx130_3)
            (try rw [show 1 * 7 = 7 from rfl] at hx130_3)
            (try rw [show ((1 : Int)).toNat = 1 from rfl] at hx130_4)
            (try rw [show 1 * 7 = 7 from rfl] at hx130_4)
            (try rw [show ((1 : Int)).toNat = 1 from rfl] at hx130_5)
            (try rw [show 1 * 7 = 7 from rfl] at hx130_5)
            (try rw [show ((1 : Int)).toNat = 1 from rfl] at hx130_6)
            (try rw [show 1 * 7 = 7 from rfl] at hx130_6)
            replace hx130_0 := hb_ HB hx130_0
            replace hx130_1 := hb_ HB hx130_1
            replace hx130_2 := hb_ HB hx130_2
            replace hx130_3 := hb_ HB hx130_3
            replace hx130_4 := hb_ HB hx130_4
            replace hx130_5 := hb_ HB hx130_5
            replace hx130_6 := hb_ HB hx130_6
            have HR130_6 := Aside0.mk hi130_6
            have HC130_6 := Aside0.mk hl130_6
            clear hi130_6 hl130_6
            replace p130 := eq_true p130
            replace q130 := eq_true q130
            refine start_ (n := 19) (S := fun w' => w'.cell? ⟨gb125, 0, none⟩ = some (.int .i64 a0_0) ∧ w'.cell? ⟨gb125, 1, none⟩ = some (.int .i64 a0_1) ∧ w'.cell? ⟨gb125, 2, none⟩ = some (.int .i64 a0_2) ∧ w'.cell? ⟨gb125, 3, none⟩ = some (.int .i64 a0_3) ∧ w'.cell? ⟨gb125, 4, none⟩ = some (.string a0_4) ∧ w'.cell? ⟨gb125, 5, none⟩ = some (.string a0_5) ∧ w'.cell? ⟨gb125, 6, none⟩ = some (.slice (some ad128) l0_6.length c0_6) ∧ w'.cell? ad128 = some (.int .i64 ((rd_T32 l0_6 0).f0)) ∧ w'.cell? ⟨ad128.block, ad128.off + 1, none⟩ = some (.int .i64 ((rd_T32 l0_6 0).f1)) ∧ w'.cell? ⟨ad128.block, ad128.off + 2, none⟩ = some (.int .i64 ((rd_T32 l0_6 0).f2.f0)) ∧ w'.cell? ⟨ad128.block, ad128.off + 3, none⟩ = some (.int .i64 ((rd_T32 l0_6 0).f2.f1)) ∧ w'.cell? ⟨ad128.block, ad128.off + 4, none⟩ = some (.string ((rd_T32 l0_6 0).f2.f2)) ∧ w'.cell? ⟨ad128.block, ad128.off + 5, none⟩ = some (.string ((rd_T32 l0_6 0).f3)) ∧ w'.cell? ⟨ad128.block, ad128.off + 6, none⟩ = some (.slice A128_6 ((rd_T32 l0_6 0).f4).length c128_6) ∧ w'.cell? ⟨ad128.block, ad128.off + 7, none⟩ = some (.int .i64 ((rd_T32 l0_6 1).f0)) ∧ w'.cell? ⟨ad128.block, ad128.off + 7 + 1, none⟩ = some (.int .i64 ((rd_T32 l0_6 1).f1)) ∧ w'.cell? ⟨ad128.block, ad128.off + 7 + 2, none⟩ = some (.int .i64 ((rd_T32 l0_6 1).f2.f0)) ∧ w'.cell? ⟨ad128.block, ad128.off + 7 + 3, none⟩ = some (.int .i64 ((rd_T32 l0_6 1).f2.f1)) ∧ w'.cell? ⟨ad128.block, ad128.off + 7 + 4, none⟩ = some (.string ((rd_T32 l0_6 1).f2.f2)) ∧ w'.cell? ⟨ad128.block, ad128.off + 7 + 5, none⟩ = some (.string ((rd_T32 l0_6 1).f3)) ∧ w'.cell? ⟨ad128.block, ad128.off + 7 + 6, none⟩ = some (.slice A130_6 ((rd_T32 l0_6 1).f4).length c130_6)) (ds := []) (tf 0 19) (by kernel_rfl) rfl rfl ⟨bc_ BK125 0, bc_ BK125 1, bc_ BK125 2, bc_ BK125 3, bc_ BK125 4, bc_ BK125 5, bc_ BK125 6, (hb_ HB hw128_0), (hb_ HB hw128_1), (hb_ HB hw128_2), (hb_ HB hw128_3), (hb_ HB hw128_4), (hb_ HB hw128_5), (hb_ HB hw128_6), (hb_ HB hw130_0), (hb_ HB hw130_1), (hb_ HB hw130_2), (hb_ HB hw130_3), (hb_ HB hw130_4), (hb_ HB hw130_5), (hb_ HB hw130_6)⟩ (fun hHeld => ?_); refine with_tabW spec_l03Text.tab7 spec_l03Text.bits7 (fun HT_ HW_ => ?_)
            generalize w23.drew = w25 at BK125 HB HR128_6 HR130_6 hx128_0 hx128_1 hx128_2 hx128_3 hx128_4 hx128_5 hx128_6 hx130_0 hx130_1 hx130_2 hx130_3 hx130_4 hx130_5 hx130_6 hHeld ⊢
            refine pl_ ?_
            refine plx_ 7 #[true, false, false, false, false, false, false, true, false, false, false, false, false, false, false, false, false, false, false] ?_
            refine plx_ 11 #[true, false, false, false, false, false, false, true, false, false, false, true, false, false, false, false, false, false, false] ?_
            refine tlx_ 1 #[true, true, false, false, false, false, false, true, false, false, false, true, false, false, false, false, false, false, false] ?_
            refine plx_ 2 #[true, true, true, false, false, false, false, true, false, false, false, true, false, false, false, false, false, false, false] ?_
            refine tlx_ 3 #[true, true, true, true, false, false, false, true, false, false, false, true, false, false, false, false, false, false, false] ?_
            refine tlx_ 8 #[true, true, true, true, false, false, false, true, true, false, false, true, false, false, false, false, false, false, false] ?_
            refine tlx_ 12 #[true, true, true, true, false, false, false, true, true, false, false, true, true, false, false, false, false, false, false] ?_
            refine plx_ 13 #[true, true, true, true, false, false, false, true, true, false, false, true, true, true, false, false, false, false, false] ?_
            refine tlx_ 14 #[true, true, true, true, false, false, false, true, true, false, false, true, true, true, true, false, false, false, false] ?_
            refine one_ (i := 4) (N := some 22) #[true, true, true, true, true, false, false, true, true, false, false, true, true, true, true, false, false, false, false] rfl rfl (one_of HT_.out (by kernel_rfl)) (by decide) (fun K hK => ?_)
            refine gs_ Tryd.func45 #[.agg #[.int .i64 ((rd_T32 l0_6 0).f0), .int .i64 ((rd_T32 l0_6 0).f1), .int .i64 ((rd_T32 l0_6 0).f2.f0), .int .i64 ((rd_T32 l0_6 0).f2.f1), .string ((rd_T32 l0_6 0).f2.f2), .string ((rd_T32 l0_6 0).f3), .slice A128_6 ((rd_T32 l0_6 0).f4).length c128_6]] ?_
            with_reducible refine (ih k (by omega) ((rd_T32 l0_6 0).f0) ((rd_T32 l0_6 0).f1) ((rd_T32 l0_6 0).f2.f0) ((rd_T32 l0_6 0).f2.f1) ((rd_T32 l0_6 0).f2.f2) ((rd_T32 l0_6 0).f3) _ _ ((rd_T32 l0_6 0).f4) t129 _ ?side1 ?side2 A14.out).mono ?_
            (case side1 => exact ck_ (Kd.C_below HR128_6.out HB.out))
            (case side2 => exact HC128_6.out)
            rintro e w26 ⟨rfl, hb⟩
            refine ⟨_, rfl, ?_⟩
            replace BK125 := bkb_ BK125 hb
            replace HB := bs_ hb
            (try clear hb)
            (try clear hb2)
            (try clear hk)
            (try clear hi)
            refine hK.out _ _ ⟨bc_ BK125 0, bc_ BK125 1, bc_ BK125 2, bc_ BK125 3, bc_ BK125 4, bc_ BK125 5, bc_ BK125 6, (hb_ HB hw128_0), (hb_ HB hw128_1), (hb_ HB hw128_2), (hb_ HB hw128_3), (hb_ HB hw128_4), (hb_ HB hw128_5), (hb_ HB hw128_6), (hb_ HB hw130_0), (hb_ HB hw130_1), (hb_ HB hw130_2), (hb_ HB hw130_3), (hb_ HB hw130_4), (hb_ HB hw130_5), (hb_ HB hw130_6)⟩ (fun hHeld => ?_)
            clear hK K
            refine nm_ ?_
            refine plx_ 5 #[true, true, true, true, true, true, false, true, true, false, false, true, true, true, true, false, false, false, false] ?_
            refine plx_ 6 #[true, true, true, true, true, true, true, true, true, false, false, true, true, true, true, false, false, false, false] ?_
            refine plx_ 9 #[true, true, true, true, true, true, true, true, true, true, false, true, true, true, true, false, false, false, false] ?_
            refine plx_ 10 (tf 15 4) ?_
            refine one_ (i := 15) (N := some 33) (tf 16 3) rfl rfl (one_of HT_.out (by kernel_rfl)) (by decide) (fun K hK => ?_)
            refine gs_ Tryd.func45 #[.agg #[.int .i64 ((rd_T32 l0_6 1).f0), .int .i64 ((rd_T32 l0_6 1).f1), .int .i64 ((rd_T32 l0_6 1).f2.f0), .int .i64 ((rd_T32 l0_6 1).f2.f1), .string ((rd_T32 l0_6 1).f2.f2), .string ((rd_T32 l0_6 1).f3), .slice A130_6 ((rd_T32 l0_6 1).f4).length c130_6]] ?_
            with_reducible refine (ih k (by omega) ((rd_T32 l0_6 1).f0) ((rd_T32 l0_6 1).f1) ((rd_T32 l0_6 1).f2.f0) ((rd_T32 l0_6 1).f2.f1) ((rd_T32 l0_6 1).f2.f2) ((rd_T32 l0_6 1).f3) _ _ ((rd_T32 l0_6 1).f4) t131 _ ?side1 ?side2 A20.out).mono ?_
            (case side1 => exact ck_ (Kd.C_below HR130_6.out HB.out))
            (case side2 => exact HC130_6.out)
            rintro e w27 ⟨rfl, hb⟩
            refine ⟨_, rfl, ?_⟩
            replace BK125 := bkb_ BK125 hb
            replace HB := bs_ hb
            (try clear hb)
            (try clear hb2)
            (try clear hk)
            (try clear hi)
            refine hK.out _ _ ⟨bc_ BK125 0, bc_ BK125 1, bc_ BK125 2, bc_ BK125 3, bc_ BK125 4, bc_ BK125 5, bc_ BK125 6, (hb_ HB hw128_0), (hb_ HB hw128_1), (hb_ HB hw128_2), (hb_ HB hw128_3), (hb_ HB hw128_4), (hb_ HB hw128_5), (hb_ HB hw128_6), (hb_ HB hw130_0), (hb_ HB hw130_1), (hb_ HB hw130_2), (hb_ HB hw130_3), (hb_ HB hw130_4), (hb_ HB hw130_5), (hb_ HB hw130_6)⟩ (fun hHeld => ?_)
            clear hK K
            refine nm_ ?_
            refine plx_ 16 (tf 17 2) ?_
            iterate 2 (refine pl_ ?_)
            refine done_ (done_of HT_.out (by kernel_rfl)) ?_
            try go_wp2
            go_ret
            exact ⟨er_, bb_⟩
           ·rw [if_neg c22] at H
            exact absurd H (by simp)
          ·rw [if_neg c21] at H
           exact absurd H (by simp)
         ·rw [if_neg c19] at H
          exact absurd H (by simp)
        ·rw [if_neg c18] at H
         exact absurd H (by simp)
       ·rw [if_neg c17] at H
        exact absurd H (by simp)
      ·rw [if_neg c16] at H
       exact absurd H (by simp)
     ·rw [if_neg c15] at H
      exact absurd H (by simp)
    ·rw [if_neg c13] at H
     exact absurd H (by simp)
   ·rw [if_neg c12] at H
    have c12b0 : (a0_0 == 2) = false := beq_eq_false_iff_ne.mpr c12
    have c12b1 : (a0_0 != 2) = true := bne_iff_ne.mpr c12
    by_cases c28 : a0_0 = 3
    ·rw [if_pos c28] at H
     have c28b0 : (a0_0 == 3) = true := beq_iff_eq.mpr c28
     have c28b1 : (a0_0 != 3) = false := bne_eq_false_iff_eq.mpr c28
     clear c28
     by_cases c29 : 0 < (l0_6.length : Int)
     ·rw [if_pos c29] at H
      have c29b0 : decide (0 < (l0_6.length : Int)) = true := decide_eq_true c29
      have c29b1 : decide (0 < l0_6.length) = true := decide_eq_true (by omega)
      clear c29
      replace H := Option.bind_eq_some_iff.mp H
      obtain ⟨t133, A300, H⟩ := H
      replace H : (if 4 + t133.size ≤ 9223372036854775807 then (if ((⟨#[110, 111, 116, 40]⟩ : ByteArray) ++ t133).size + 1 ≤ 9223372036854775807 then (some (((⟨#[110, 111, 116, 40]⟩ : ByteArray) ++ t133) ++ (⟨#[41]⟩ : ByteArray))) else (none)) else (none)) = some r := H
      have A30 := Aside0.mk A300
      clear A300
      by_cases c31 : 4 + t133.size ≤ 9223372036854775807
      ·rw [if_pos c31] at H
       have c31b0 := eq_true c31
       have c31b1 : decide (4 + t133.size ≤ 9223372036854775807) = true := decide_eq_true c31
       try have c31b2 : (9223372036854775807 < 4 + t133.size) = False := eq_false (Nat.not_lt.2 c31)
       by_cases c32 : ((⟨#[110, 111, 116, 40]⟩ : ByteArray) ++ t133).size + 1 ≤ 9223372036854775807
       ·rw [if_pos c32] at H
        have c32b0 := eq_true c32
        have c32b1 : decide (((⟨#[110, 111, 116, 40]⟩ : ByteArray) ++ t133).size + 1 ≤ 9223372036854775807) = true := decide_eq_true c32
        try have c32b2 : (9223372036854775807 < ((⟨#[110, 111, 116, 40]⟩ : ByteArray) ++ t133).size + 1) = False := eq_false (Nat.not_lt.2 c32)
        (try (have c32b0z := c32b0; simp only [ByteArray.size_append] at c32b0z))
        (try (have c32b1z := c32b1; simp only [ByteArray.size_append] at c32b1z))
        (try (have c32b2z := c32b2; simp only [ByteArray.size_append] at c32b2z))
        (try (have c32b2y : (9223372036854775807 < 4 + t133.size + 1) = False := by (apply eq_false; have hq_ := c32; simp only [ByteArray.size_append, ByteArray.size_extract] at hq_; have hl0_ : (⟨#[110, 111, 116, 40]⟩ : ByteArray).size = 4 := rfl; omega)))
        obtain rfl := Option.some.inj H
        go_enter Tryd.func45, Tryd.ntmps45
        go_wp2_with (first | ((with_reducible refine gate_dst (N := 1) rfl ?_); refine bx_ 1 #[.int .i64 a0_0, .int .i64 a0_1, .int .i64 a0_2, .int .i64 a0_3, .string a0_4, .string a0_5, .slice A0_6 l0_6.length c0_6] 32 ?_; intro gb125 hg w33 hbox hb; have BK125 := Aside0.mk (hbox); have GW125 := gw_ hg; have GE125 := gw_ hg; replace HB := bs_ hb; clear hb hbox hg; obtain ⟨hcz34_0, hcz34_1, hcz34_2, hcz34_3, hcz34_4, hcz34_5, hcz34_6, hfz34_0, hfz34_1, hfz34_2, hfz34_3, hfz34_4, hfz34_5, hfz34_6⟩ := b7_ BK125; have p132 : 0 ≤ (0 : Int) := (by omega); have q132 : 0 < (l0_6.length : Int) := of_decide_eq_true (by first | (with_reducible assumption) | assumption); obtain ⟨ad132, A132_6, c132_6, e132, hx132_0, hx132_1, hx132_2, hx132_3, hx132_4, hx132_5, hx132_6, hl132_6, hi132_6⟩ := at_T32 HR0_6.out 0 p132 q132; cases e132; have qi132 : (0 < l0_6.length) = True := eq_true (by omega); (try rw [show ((0 : Int)).toNat = 0 from rfl] at hx132_0); (try rw [show 0 * 7 = 0 from rfl] at hx132_0); (try rw [Addr.add_zero'] at hx132_0); (try rw [show ((0 : Int)).toNat = 0 from rfl] at hx132_1); (try rw [show 0 * 7 = 0 from rfl] at hx132_1); (try rw [Addr.add_zero'] at hx132_1); (try rw [show ((0 : Int)).toNat = 0 from rfl] at hx132_2); (try rw [show 0 * 7 = 0 from rfl] at hx132_2); (try rw [Addr.add_zero'] at hx132_2); (try rw [show ((0 : Int)).toNat = 0 from rfl] at hx132_3); (try rw [show 0 * 7 = 0 from rfl] at hx132_3); (try rw [Addr.add_zero'] at hx132_3); (try rw [show ((0 : Int)).toNat = 0 from rfl] at hx132_4); (try rw [show 0 * 7 = 0 from rfl] at hx132_4); (try rw [Addr.add_zero'] at hx132_4); (try rw [show ((0 : Int)).toNat = 0 from rfl] at hx132_5); (try rw [show 0 * 7 = 0 from rfl] at hx132_5); (try rw [Addr.add_zero'] at hx132_5); (try rw [show ((0 : Int)).toNat = 0 from rfl] at hx132_6); (try rw [show 0 * 7 = 0 from rfl] at hx132_6); (try rw [Addr.add_zero'] at hx132_6); replace hx132_0 := hb_ HB hx132_0; replace hx132_1 := hb_ HB hx132_1; replace hx132_2 := hb_ HB hx132_2; replace hx132_3 := hb_ HB hx132_3; replace hx132_4 := hb_ HB hx132_4; replace hx132_5 := hb_ HB hx132_5; replace hx132_6 := hb_ HB hx132_6; have HR132_6 := Aside0.mk hi132_6; have HC132_6 := Aside0.mk hl132_6; clear hi132_6 hl132_6; replace p132 := eq_true p132; replace q132 := eq_true q132) | ((with_reducible refine gate_callee (f := 45) rfl ?_); refine gsL_ (some 42) Tryd.func45 #[.agg #[.int .i64 ((rd_T32 l0_6 0).f0), .int .i64 ((rd_T32 l0_6 0).f1), .int .i64 ((rd_T32 l0_6 0).f2.f0), .int .i64 ((rd_T32 l0_6 0).f2.f1), .string ((rd_T32 l0_6 0).f2.f2), .string ((rd_T32 l0_6 0).f3), .slice A132_6 ((rd_T32 l0_6 0).f4).length c132_6]] ?_; (with_reducible refine (ih k (by omega) ((rd_T32 l0_6 0).f0) ((rd_T32 l0_6 0).f1) ((rd_T32 l0_6 0).f2.f0) ((rd_T32 l0_6 0).f2.f1) ((rd_T32 l0_6 0).f2.f2) ((rd_T32 l0_6 0).f3) _ _ ((rd_T32 l0_6 0).f4) t133 _ ?side1 ?side2 A30.out).mono ?_); (case side1 => exact ck_ (Kd.C_below HR132_6.out HB.out)); (case side2 => exact HC132_6.out); rintro e w35 ⟨rfl, hb⟩; refine ⟨_, rfl, ?_⟩; replace BK125 := bkb_ BK125 hb; replace HB := bs_ hb; (try clear hb); (try clear hb2); (try clear hk); (try clear hi)))
        go_ret
        exact ⟨er_, bb_⟩
       ·rw [if_neg c32] at H
        exact absurd H (by simp)
      ·rw [if_neg c31] at H
       exact absurd H (by simp)
     ·rw [if_neg c29] at H
      exact absurd H (by simp)
    ·rw [if_neg c28] at H
     have c28b0 : (a0_0 == 3) = false := beq_eq_false_iff_ne.mpr c28
     have c28b1 : (a0_0 != 3) = true := bne_iff_ne.mpr c28
     by_cases c36 : 0 < (l0_6.length : Int)
     ·rw [if_pos c36] at H
      have c36b0 : decide (0 < (l0_6.length : Int)) = true := decide_eq_true c36
      have c36b1 : decide (0 < l0_6.length) = true := decide_eq_true (by omega)
      clear c36
      replace H := Option.bind_eq_some_iff.mp H
      obtain ⟨t135, A370, H⟩ := H
      replace H : (if 7 + t135.size ≤ 9223372036854775807 then (if ((⟨#[105, 115, 110, 117, 108, 108, 40]⟩ : ByteArray) ++ t135).size + 1 ≤ 9223372036854775807 then (some (((⟨#[105, 115, 110, 117, 108, 108, 40]⟩ : ByteArray) ++ t135) ++ (⟨#[41]⟩ : ByteArray))) else (none)) else (none)) = some r := H
      have A37 := Aside0.mk A370
      clear A370
      by_cases c38 : 7 + t135.size ≤ 9223372036854775807
      ·rw [if_pos c38] at H
       have c38b0 := eq_true c38
       have c38b1 : decide (7 + t135.size ≤ 9223372036854775807) = true := decide_eq_true c38
       try have c38b2 : (9223372036854775807 < 7 + t135.size) = False := eq_false (Nat.not_lt.2 c38)
       by_cases c39 : ((⟨#[105, 115, 110, 117, 108, 108, 40]⟩ : ByteArray) ++ t135).size + 1 ≤ 9223372036854775807
       ·rw [if_pos c39] at H
        have c39b0 := eq_true c39
        have c39b1 : decide (((⟨#[105, 115, 110, 117, 108, 108, 40]⟩ : ByteArray) ++ t135).size + 1 ≤ 9223372036854775807) = true := decide_eq_true c39
        try have c39b2 : (9223372036854775807 < ((⟨#[105, 115, 110, 117, 108, 108, 40]⟩ : ByteArray) ++ t135).size + 1) = False := eq_false (Nat.not_lt.2 c39)
        (try (have c39b0z := c39b0; simp only [ByteArray.size_append] at c39b0z))
        (try (have c39b1z := c39b1; simp only [ByteArray.size_append] at c39b1z))
        (try (have c39b2z := c39b2; simp only [ByteArray.size_append] at c39b2z))
        (try (have c39b2y : (9223372036854775807 < 7 + t135.size + 1) = False := by (apply eq_false; have hq_ := c39; simp only [ByteArray.size_append, ByteArray.size_extract] at hq_; have hl0_ : (⟨#[105, 115, 110, 117, 108, 108, 40]⟩ : ByteArray).size = 7 := rfl; omega)))
        obtain rfl := Option.some.inj H
        go_enter Tryd.func45, Tryd.ntmps45
        go_wp2_with (first | ((with_reducible refine gate_dst (N := 1) rfl ?_); refine bx_ 1 #[.int .i64 a0_0, .int .i64 a0_1, .int .i64 a0_2, .int .i64 a0_3, .string a0_4, .string a0_5, .slice A0_6 l0_6.length c0_6] 32 ?_; intro gb125 hg w40 hbox hb; have BK125 := Aside0.mk (hbox); have GW125 := gw_ hg; have GE125 := gw_ hg; replace HB := bs_ hb; clear hb hbox hg; obtain ⟨hcz41_0, hcz41_1, hcz41_2, hcz41_3, hcz41_4, hcz41_5, hcz41_6, hfz41_0, hfz41_1, hfz41_2, hfz41_3, hfz41_4, hfz41_5, hfz41_6⟩ := b7_ BK125; have p134 : 0 ≤ (0 : Int) := (by omega); have q134 : 0 < (l0_6.length : Int) := of_decide_eq_true (by first | (with_reducible assumption) | assumption); obtain ⟨ad134, A134_6, c134_6, e134, hx134_0, hx134_1, hx134_2, hx134_3, hx134_4, hx134_5, hx134_6, hl134_6, hi134_6⟩ := at_T32 HR0_6.out 0 p134 q134; cases e134; have qi134 : (0 < l0_6.length) = True := eq_true (by omega); (try rw [show ((0 : Int)).toNat = 0 from rfl] at hx134_0); (try rw [show 0 * 7 = 0 from rfl] at hx134_0); (try rw [Addr.add_zero'] at hx134_0); (try rw [show ((0 : Int)).toNat = 0 from rfl] at hx134_1); (try rw [show 0 * 7 = 0 from rfl] at hx134_1); (try rw [Addr.add_zero'] at hx134_1); (try rw [show ((0 : Int)).toNat = 0 from rfl] at hx134_2); (try rw [show 0 * 7 = 0 from rfl] at hx134_2); (try rw [Addr.add_zero'] at hx134_2); (try rw [show ((0 : Int)).toNat = 0 from rfl] at hx134_3); (try rw [show 0 * 7 = 0 from rfl] at hx134_3); (try rw [Addr.add_zero'] at hx134_3); (try rw [show ((0 : Int)).toNat = 0 from rfl] at hx134_4); (try rw [show 0 * 7 = 0 from rfl] at hx134_4); (try rw [Addr.add_zero'] at hx134_4); (try rw [show ((0 : Int)).toNat = 0 from rfl] at hx134_5); (try rw [show 0 * 7 = 0 from rfl] at hx134_5); (try rw [Addr.add_zero'] at hx134_5); (try rw [show ((0 : Int)).toNat = 0 from rfl] at hx134_6); (try rw [show 0 * 7 = 0 from rfl] at hx134_6); (try rw [Addr.add_zero'] at hx134_6); replace hx134_0 := hb_ HB hx134_0; replace hx134_1 := hb_ HB hx134_1; replace hx134_2 := hb_ HB hx134_2; replace hx134_3 := hb_ HB hx134_3; replace hx134_4 := hb_ HB hx134_4; replace hx134_5 := hb_ HB hx134_5; replace hx134_6 := hb_ HB hx134_6; have HR134_6 := Aside0.mk hi134_6; have HC134_6 := Aside0.mk hl134_6; clear hi134_6 hl134_6; replace p134 := eq_true p134; replace q134 := eq_true q134) | ((with_reducible refine gate_callee (f := 45) rfl ?_); refine gsL_ (some 49) Tryd.func45 #[.agg #[.int .i64 ((rd_T32 l0_6 0).f0), .int .i64 ((rd_T32 l0_6 0).f1), .int .i64 ((rd_T32 l0_6 0).f2.f0), .int .i64 ((rd_T32 l0_6 0).f2.f1), .string ((rd_T32 l0_6 0).f2.f2), .string ((rd_T32 l0_6 0).f3), .slice A134_6 ((rd_T32 l0_6 0).f4).length c134_6]] ?_; (with_reducible refine (ih k (by omega) ((rd_T32 l0_6 0).f0) ((rd_T32 l0_6 0).f1) ((rd_T32 l0_6 0).f2.f0) ((rd_T32 l0_6 0).f2.f1) ((rd_T32 l0_6 0).f2.f2) ((rd_T32 l0_6 0).f3) _ _ ((rd_T32 l0_6 0).f4) t135 _ ?side1 ?side2 A37.out).mono ?_); (case side1 => exact ck_ (Kd.C_below HR134_6.out HB.out)); (case side2 => exact HC134_6.out); rintro e w42 ⟨rfl, hb⟩; refine ⟨_, rfl, ?_⟩; replace BK125 := bkb_ BK125 hb; replace HB := bs_ hb; (try clear hb); (try clear hb2); (try clear hk); (try clear hi)))
        go_ret
        exact ⟨er_, bb_⟩
       ·rw [if_neg c39] at H
        exact absurd H (by simp)
      ·rw [if_neg c38] at H
       exact absurd H (by simp)
     ·rw [if_neg c36] at H
      exact absurd H (by simp)

/-! ### spec_ExpText: function 8 -/
def spec_ExpText.f (k : Nat) (a0_0 : Int) (a0_1 : Int) (a0_2 : Int) (a0_3 : Int) (a0_4 : ByteArray) (a0_5 : ByteArray) (l0_6 : List (S32)) : Option (ByteArray) := (spec_ExpOk.f k a0_0 a0_1 a0_2 a0_3 a0_4 a0_5 l0_6).bind fun t137 => (if t137 = true then ((spec_l03Text.f k a0_0 a0_1 a0_2 a0_3 a0_4 a0_5 l0_6).bind fun t138 => (some t138)) else (some (⟨#[]⟩ : ByteArray)))
set_option maxHeartbeats 8000000 in
set_option maxRecDepth 100000 in
theorem spec_ExpText.calls (k : Nat) (a0_0 : Int) (a0_1 : Int) (a0_2 : Int) (a0_3 : Int) (a0_4 : ByteArray) (a0_5 : ByteArray) (A0_6 : Option Addr) (c0_6 : Nat) (l0_6 : List (S32)) (r : ByteArray) (w : World) (hr0_6 : Kd.C k32 w A0_6 l0_6.length l0_6) (hc0_6 : l0_6.length ≤ c0_6) (h : spec_ExpText.f k a0_0 a0_1 a0_2 a0_3 a0_4 a0_5 l0_6 = some r) :
  Calls Tryd.prog 8 #[.agg #[.int .i64 a0_0, .int .i64 a0_1, .int .i64 a0_2, .int .i64 a0_3, .string a0_4, .string a0_5, .slice A0_6 l0_6.length c0_6]] w fun e w' => e = .returned (.string r) ∧ Below w.heap.size w w' := by
 have hu32 := Tryd.underlying32
 have HR0_6 := Aside0.mk hr0_6
 have HC0_6 := Aside0.mk hc0_6
 clear hr0_6 hc0_6
 have HB := Aside0.mk (Below.refl w.heap.size w)
 have H : ((spec_ExpOk.f k a0_0 a0_1 a0_2 a0_3 a0_4 a0_5 l0_6).bind fun t137 => (if t137 = true then ((spec_l03Text.f k a0_0 a0_1 a0_2 a0_3 a0_4 a0_5 l0_6).bind fun t138 => (some t138)) else (some (⟨#[]⟩ : ByteArray)))) = some r := h
 clear h
 replace H := Option.bind_eq_some_iff.mp H
 obtain ⟨t137, A20, H⟩ := H
 replace H : (if t137 = true then ((spec_l03Text.f k a0_0 a0_1 a0_2 a0_3 a0_4 a0_5 l0_6).bind fun t138 => (some t138)) else (some (⟨#[]⟩ : ByteArray))) = some r := H
 have A2 := Aside0.mk A20
 clear A20
 by_cases c3 : t137 = true
 ·subst c3
  have H1 : ((spec_l03Text.f k a0_0 a0_1 a0_2 a0_3 a0_4 a0_5 l0_6).bind fun t138 => (some t138)) = some r := by rw [if_pos rfl] at H; exact H
  clear H
  have H := H1
  clear H1
  replace H := Option.bind_eq_some_iff.mp H
  obtain ⟨t138, A40, H⟩ := H
  replace H : (some t138) = some r := H
  have A4 := Aside0.mk A40
  clear A40
  obtain rfl := Option.some.inj H
  go_enter Tryd.func8, Tryd.ntmps8
  go_wp2_with (first | ((with_reducible refine gate_dst (N := 1) rfl ?_); refine bx_ 1 #[.int .i64 a0_0, .int .i64 a0_1, .int .i64 a0_2, .int .i64 a0_3, .string a0_4, .string a0_5, .slice A0_6 l0_6.length c0_6] 32 ?_; intro gb136 hg w5 hbox hb; have BK136 := Aside0.mk (hbox); have GW136 := gw_ hg; have GE136 := gw_ hg; replace HB := bs_ hb; clear hb hbox hg; obtain ⟨hcz6_0, hcz6_1, hcz6_2, hcz6_3, hcz6_4, hcz6_5, hcz6_6, hfz6_0, hfz6_1, hfz6_2, hfz6_3, hfz6_4, hfz6_5, hfz6_6⟩ := b7_ BK136) | ((with_reducible refine gate_callee (f := 44) rfl ?_); refine gsL_ (some 4) Tryd.func44 #[.agg #[.int .i64 a0_0, .int .i64 a0_1, .int .i64 a0_2, .int .i64 a0_3, .string a0_4, .string a0_5, .slice A0_6 l0_6.length c0_6]] ?_; (with_reducible refine (spec_ExpOk.calls k a0_0 a0_1 a0_2 a0_3 a0_4 a0_5 _ _ l0_6 true _ ?side1 ?side2 A2.out).mono ?_); (case side1 => exact ck_ (Kd.C_below HR0_6.out HB.out)); (case side2 => exact HC0_6.out); rintro e w7 ⟨rfl, hb⟩; refine ⟨_, rfl, ?_⟩; replace BK136 := bkb_ BK136 hb; replace HB := bs_ hb; (try clear hb); (try clear hb2); (try clear hk); (try clear hi); obtain ⟨hcz8_0, hcz8_1, hcz8_2, hcz8_3, hcz8_4, hcz8_5, hcz8_6, hfz8_0, hfz8_1, hfz8_2, hfz8_3, hfz8_4, hfz8_5, hfz8_6⟩ := b7_ BK136) | ((with_reducible refine gate_callee (f := 45) rfl ?_); refine gsL_ (some 7) Tryd.func45 #[.agg #[.int .i64 a0_0, .int .i64 a0_1, .int .i64 a0_2, .int .i64 a0_3, .string a0_4, .string a0_5, .slice A0_6 l0_6.length c0_6]] ?_; (with_reducible refine (spec_l03Text.calls k a0_0 a0_1 a0_2 a0_3 a0_4 a0_5 _ _ l0_6 t138 _ ?side1 ?side2 A4.out).mono ?_); (case side1 => exact ck_ (Kd.C_below HR0_6.out HB.out)); (case side2 => exact HC0_6.out); rintro e w9 ⟨rfl, hb⟩; refine ⟨_, rfl, ?_⟩; replace BK136 := bkb_ BK136 hb; replace HB := bs_ hb; (try clear hb); (try clear hb2); (try clear hk); (try clear hi)))
  go_ret
  exact ⟨er_, bb_⟩
 ·replace c3 := Bool.eq_false_iff.mpr c3
  subst c3
  have H1 : (some (⟨#[]⟩ : ByteArray)) = some r := by rw [if_neg (show ¬ (false = true) by decide)] at H; exact H
  clear H
  have H := H1
  clear H1
  obtain rfl := Option.some.inj H
  go_enter Tryd.func8, Tryd.ntmps8
  go_wp2_with (first | ((with_reducible refine gate_dst (N := 1) rfl ?_); refine bx_ 1 #[.int .i64 a0_0, .int .i64 a0_1, .int .i64 a0_2, .int .i64 a0_3, .string a0_4, .string a0_5, .slice A0_6 l0_6.length c0_6] 32 ?_; intro gb136 hg w10 hbox hb; have BK136 := Aside0.mk (hbox); have GW136 := gw_ hg; have GE136 := gw_ hg; replace HB := bs_ hb; clear hb hbox hg; obtain ⟨hcz11_0, hcz11_1, hcz11_2, hcz11_3, hcz11_4, hcz11_5, hcz11_6, hfz11_0, hfz11_1, hfz11_2, hfz11_3, hfz11_4, hfz11_5, hfz11_6⟩ := b7_ BK136) | ((with_reducible refine gate_callee (f := 44) rfl ?_); refine gsL_ (some 4) Tryd.func44 #[.agg #[.int .i64 a0_0, .int .i64 a0_1, .int .i64 a0_2, .int .i64 a0_3, .string a0_4, .string a0_5, .slice A0_6 l0_6.length c0_6]] ?_; (with_reducible refine (spec_ExpOk.calls k a0_0 a0_1 a0_2 a0_3 a0_4 a0_5 _ _ l0_6 false _ ?side1 ?side2 A2.out).mono ?_); (case side1 => exact ck_ (Kd.C_below HR0_6.out HB.out)); (case side2 => exact HC0_6.out); rintro e w12 ⟨rfl, hb⟩; refine ⟨_, rfl, ?_⟩; replace BK136 := bkb_ BK136 hb; replace HB := bs_ hb; (try clear hb); (try clear hb2); (try clear hk); (try clear hi)))
  go_ret
  exact ⟨er_, bb_⟩

/-! ### laws_toValue: function 46 -/
def laws_toValue.f (a0_0 : Int) (a0_1 : Int) (a0_2 : ByteArray) : Option (Int × Int × ByteArray) := some (a0_0, a0_1, a0_2)
set_option maxHeartbeats 8000000 in
set_option maxRecDepth 100000 in
theorem laws_toValue.calls (a0_0 : Int) (a0_1 : Int) (a0_2 : ByteArray) (r1 : Int) (r2 : Int) (r3 : ByteArray) (w : World) (h : laws_toValue.f a0_0 a0_1 a0_2 = some (r1, r2, r3)) :
  Calls Tryd.prog 46 #[.agg #[.int .i64 a0_0, .int .i64 a0_1, .string a0_2]] w fun e w' => e = .returned (.agg #[.int .i64 r1, .int .i64 r2, .string r3]) ∧ Below w.heap.size w w' := by
 have hu23 := Tryd.underlying23
 have hu29 := Tryd.underlying29
 have HB := Aside0.mk (Below.refl w.heap.size w)
 have H : (some (a0_0, a0_1, a0_2)) = some (r1, r2, r3) := h
 clear h
 simp only [Option.some.injEq, Prod.mk.injEq] at H
 obtain ⟨rfl, rfl, rfl⟩ := H
 go_enter Tryd.func46, Tryd.ntmps46
 go_wp2_with (first | ((with_reducible refine gate_dst (N := 1) rfl ?_); refine bx_ 1 #[.int .i64 a0_0, .int .i64 a0_1, .string a0_2] 23 ?_; intro gb139 hg w2 hbox hb; have BK139 := Aside0.mk (hbox); have GW139 := gw_ hg; have GE139 := gw_ hg; replace HB := bs_ hb; clear hb hbox hg) | ((with_reducible refine gate_dst (N := 2) rfl ?_); refine bx_ 2 #[.int .i64 0, .int .i64 0, .string (⟨#[]⟩ : ByteArray)] 29 ?_; intro gb140 hg w3 hbox hb; have BK140 := Aside0.mk (hbox); have GW140 := gw_ hg; have GE140 := gw_ hg; have NB139_140 := nl_ hg BK139; have NB140_139 := ng_ hg BK139; replace BK139 := bkb_ BK139 hb; replace HB := bs_ hb; clear hb hbox hg) | ((with_reducible refine gate_dst (N := 3) rfl ?_); refine bx_ 3 #[.int .i64 0, .int .i64 0, .string (⟨#[]⟩ : ByteArray)] 29 ?_; intro gb141 hg w4 hbox hb; have BK141 := Aside0.mk (hbox); have GW141 := gw_ hg; have GE141 := gw_ hg; have NB139_141 := nl_ hg BK139; have NB141_139 := ng_ hg BK139; have NB140_141 := nl_ hg BK140; have NB141_140 := ng_ hg BK140; replace BK139 := bkb_ BK139 hb; replace BK140 := bkb_ BK140 hb; replace HB := bs_ hb; clear hb hbox hg; have hnb5 := NB139_140.out; have hnc5 := NB140_139.out; have hnb6 := NB139_141.out; have hnc6 := NB141_139.out; obtain ⟨hcz7_0, hcz7_1, hcz7_2, hfz7_0, hfz7_1, hfz7_2⟩ := b3_ BK139; have hnb8 := NB141_140.out; have hnc8 := NB140_141.out; obtain ⟨hcz9_0, hcz9_1, hcz9_2, hfz9_0, hfz9_1, hfz9_2⟩ := b3_ BK141; obtain ⟨hcz10_0, hcz10_1, hcz10_2, hfz10_0, hfz10_1, hfz10_2⟩ := b3_ BK140))
 refine bodyPost_ret (results_cell_row rfl _ _ gb140 29 #[.int .i64 a0_0, .int .i64 a0_1, .string a0_2] (0, 0) _ rfl (by (with_reducible repeat (first | refine blk_drewN ?_ _ | refine blk_drew ?_ | refine blk_alloc ?_ _)); refine blk_put (cs := #[.int .i64 a0_0, .int .i64 a0_1, .string (⟨#[]⟩ : ByteArray)]) ?_ 2 _ rfl; (with_reducible repeat (first | refine blk_drewN ?_ _ | refine blk_drew ?_ | refine blk_alloc ?_ _)); refine blk_put (cs := #[.int .i64 a0_0, .int .i64 0, .string (⟨#[]⟩ : ByteArray)]) ?_ 1 _ rfl; (with_reducible repeat (first | refine blk_drewN ?_ _ | refine blk_drew ?_ | refine blk_alloc ?_ _)); refine blk_put (cs := #[.int .i64 0, .int .i64 0, .string (⟨#[]⟩ : ByteArray)]) ?_ 0 _ rfl; (with_reducible repeat (first | refine blk_drewN ?_ _ | refine blk_drew ?_ | refine blk_alloc ?_ _)); refine blk_far ?_ NB140_141.out _; (with_reducible repeat (first | refine blk_drewN ?_ _ | refine blk_drew ?_ | refine blk_alloc ?_ _)); refine blk_far ?_ NB140_141.out _; (with_reducible repeat (first | refine blk_drewN ?_ _ | refine blk_drew ?_ | refine blk_alloc ?_ _)); refine blk_far ?_ NB140_141.out _; (with_reducible repeat (first | refine blk_drewN ?_ _ | refine blk_drew ?_ | refine blk_alloc ?_ _)); exact BK140.out) Tryd.underlying29 rfl (by kernel_rfl)) rfl ?_
 exact ⟨er_, bb_⟩

/-! ### laws_toExpS: function 47 -/
def laws_toExpS.l0 (E_ : Int → Int → Int → Int → ByteArray → ByteArray → (List (S26)) → Option (Int × Int × Int × Int × ByteArray × ByteArray × (List (S32)))) : Nat → List (S26) → List (S32) → Int → Option ((List (S32)))
 | 0, _, _, _ => none
 | k + 1, x0, x3, x4 => if x4 < (x0.length : Int) then (if 0 ≤ x4 then ((E_ ((rd_T26 x0 x4).f0) ((rd_T26 x0 x4).f1) ((rd_T26 x0 x4).f2.f0) ((rd_T26 x0 x4).f2.f1) ((rd_T26 x0 x4).f2.f2) ((rd_T26 x0 x4).f3) ((rd_T26 x0 x4).f4)).bind fun bt146 => (if x4 < (x3.length : Int) then (laws_toExpS.l0 E_ k x0 (x3.set (x4 : Int).toNat (⟨bt146.1, bt146.2.1, (⟨bt146.2.2.1, bt146.2.2.2.1, bt146.2.2.2.2.1⟩ : S29), bt146.2.2.2.2.2.1, bt146.2.2.2.2.2.2⟩ : S32)) (wrap64 (x4 + 1))) else (none))) else (none)) else (some x3)
def laws_toExpS.f (E_ : Int → Int → Int → Int → ByteArray → ByteArray → (List (S26)) → Option (Int × Int × Int × Int × ByteArray × ByteArray × (List (S32)))) (k : Nat) (l0 : List (S26)) : Option ((List (S32))) := if 0 ≤ (l0.length : Int) then (if ((l0.length : Int) : Int).toNat ≤ 3198579280802 then (laws_toExpS.l0 E_ k l0 (List.replicate ((l0.length : Int) : Int).toNat z32) 0) else (none)) else (none)
set_option maxHeartbeats 8000000 in
set_option maxRecDepth 100000 in
theorem laws_toExpS.calls (E_ : Int → Int → Int → Int → ByteArray → ByteArray → (List (S26)) → Option (Int × Int × Int × Int × ByteArray × ByteArray × (List (S32)))) (hE_ : ∀ (a0_0 : Int) (a0_1 : Int) (a0_2 : Int) (a0_3 : Int) (a0_4 : ByteArray) (a0_5 : ByteArray) (A0_6 : Option Addr) (c0_6 : Nat) (l0_6 : List (S26)) (r1 : Int) (r2 : Int) (r3 : Int) (r4 : Int) (r5 : ByteArray) (r6 : ByteArray) (r7 : List (S32)) (w : World) (hr0_6 : Kd.C k26 w A0_6 l0_6.length l0_6) (hc0_6 : l0_6.length ≤ c0_6) (h : E_ a0_0 a0_1 a0_2 a0_3 a0_4 a0_5 l0_6 = some (r1, r2, r3, r4, r5, r6, r7)), Calls Tryd.prog 9 #[.agg #[.int .i64 a0_0, .int .i64 a0_1, .int .i64 a0_2, .int .i64 a0_3, .string a0_4, .string a0_5, .slice A0_6 l0_6.length c0_6]] w fun e w' => ∃ v6_ : Value, e = .returned (.agg #[.int .i64 r1, .int .i64 r2, .int .i64 r3, .int .i64 r4, .string r5, .string r6, v6_]) ∧ Kd.R k32 32 w' w.heap.size (fun _ => True) v6_ r7 ∧ Below w.heap.size w w') (k : Nat) (A0 : Option Addr) (c0 : Nat) (l0 : List (S26)) (r : List (S32)) (w : World) (hr0 : Kd.C k26 w A0 l0.length l0) (hc0 : l0.length ≤ c0) (h : laws_toExpS.f E_ k l0 = some r) :
  Calls Tryd.prog 47 #[.slice A0 l0.length c0] w fun e w' => ∃ v0_ : Value, e = .returned (v0_) ∧ Kd.R k32 32 w' w.heap.size (fun _ => True) v0_ r ∧ Below w.heap.size w w' := by
 have hu26 := Tryd.underlying26
 have hu32 := Tryd.underlying32
 have HR0 := Aside0.mk hr0
 have HC0 := Aside0.mk hc0
 clear hr0 hc0
 have HB := Aside0.mk (Below.refl w.heap.size w)
 have H : (if 0 ≤ (l0.length : Int) then (if ((l0.length : Int) : Int).toNat ≤ 3198579280802 then (laws_toExpS.l0 E_ k l0 (List.replicate ((l0.length : Int) : Int).toNat z32) 0) else (none)) else (none)) = some r := h
 clear h
 by_cases c2 : 0 ≤ (l0.length : Int)
 ·rw [if_pos c2] at H
  have c2b0 := eq_true c2
  have c2b1 : decide (0 ≤ (l0.length : Int)) = true := decide_eq_true c2
  clear c2
  by_cases c3 : ((l0.length : Int) : Int).toNat ≤ 3198579280802
  ·rw [if_pos c3] at H
   have c3b0 := eq_true c3
   have c3b1 : decide (((l0.length : Int) : Int).toNat ≤ 3198579280802) = true := decide_eq_true c3
   clear c3
   obtain ⟨y142, hy142⟩ : ∃ y_ : List (S32), y_ = (List.replicate ((l0.length : Int) : Int).toNat z32) := ⟨_, rfl⟩
   replace H : (laws_toExpS.l0 E_ k l0 y142 0) = some r := by first | (rw [hy142]; with_reducible exact H) | (have H2_ := (Option.bind_some _ _).symm.trans H; rw [hy142]; with_reducible exact H2_) | (have H2_ := (Option.bind_some _ _).symm.trans H; with_reducible exact H2_) | with_reducible exact H | (rw [hy142]; exact H) | exact H
   have Ny142 := Aside0.mk hy142
   clear hy142
   have H' := Aside0.mk H
   clear H
   go_enter Tryd.func47, Tryd.ntmps47
   go_wp2_with (first | ((with_reducible refine gate_dst (N := 7) rfl ?_); refine Kd.R_make k32 _ 32 rfl (N := 7) rfl 30 _ _ rfl (l0.length : Int) rfl rfl Tryd.underlying30 (.agg #[(.int .i64 0), (.int .i64 0), (.int .i64 0), (.int .i64 0), (.string ⟨#[]⟩), (.string ⟨#[]⟩), (.slice none 0 0)]) 88 info32 rfl (by decide) (by omega) z32 (ok := fun _ => True) (okp := fun _ => True) (k32_mkM _ _ _ z32 (Kd.R_nil _ _ _ _ _)) (fun _ hk => hk) trivial (of_decide_eq_true (by first | (with_reducible assumption) | assumption)) (Nat.le_trans (Nat.mul_le_mul_right _ (of_decide_eq_true (by first | (with_reducible assumption) | assumption) : (l0.length : Int).toNat ≤ 3198579280802)) (by omega)) (Below.refl _ _) (Nat.le_refl _) ?_; intro v143 w4 ho5 hb hg_ hnew_; clear hg_ hnew_; (first | rw [← Ny142.out] at ho5 | (simp only [Int.reduceToNat] at ho5; rw [← Ny142.out] at ho5)); have HO144 := Aside0.mk (Kd.R_lower ho5 (below_size bb_)); replace HB := bs_ hb; clear hb ho5))
   go_loopg [4] k (fun kq v4 w' => ∃ (x3_1 : List (S32)) (x4_1 : Int), v4 = .int .i64 x4_1 ∧ Aside0 (laws_toExpS.l0 E_ kq l0 x3_1 x4_1 = some r) ∧ Aside0 (kq ≤ k) ∧ Aside0 (Kd.R k32 32 w' w.heap.size (fun _ => True) v143 x3_1) ∧ Aside0 (Below w.heap.size w w'))
   case atStart => exact ⟨(y142), (0), rs_, H', ⟨Nat.le_refl _⟩, ⟨by (with_reducible repeat (first | apply Kd.R_alloc | apply Kd.R_drewN | apply Kd.R_drew)); exact HO144.out⟩, ⟨bb_⟩⟩
   case round =>
    clear H'
    try clear c2
    try clear c2b0
    try clear c2b1
    try clear p2
    try clear c3
    try clear c3b0
    try clear c3b1
    try clear c4
    obtain ⟨x3_1, x4_1, rfl, HA, HK1, HO_3, HB⟩ := hrel
    cases gk with
    | zero => exact absurd HA.out (by simp [laws_toExpS.l0])
    | succ k1 =>
     have H := HA.out
     clear HA
     simp only [laws_toExpS.l0] at H
     by_cases c6 : x4_1 < (l0.length : Int)
     ·rw [if_pos c6] at H
      have c6b0 : decide (x4_1 < (l0.length : Int)) = true := decide_eq_true c6
      clear c6
      by_cases c7 : 0 ≤ x4_1
      ·rw [if_pos c7] at H
       have c7b0 : decide (0 ≤ x4_1) = true := decide_eq_true c7
       clear c7
       replace H := Option.bind_eq_some_iff.mp H
       obtain ⟨⟨t146, t147, t148, t149, t150, t151, t152⟩, A80, H⟩ := H
       replace H : (if x4_1 < (x3_1.length : Int) then (laws_toExpS.l0 E_ k1 l0 (x3_1.set (x4_1 : Int).toNat (⟨t146, t147, (⟨t148, t149, t150⟩ : S29), t151, t152⟩ : S32)) (wrap64 (x4_1 + 1))) else (none)) = some r := H
       have A8 := Aside0.mk A80
       clear A80
       by_cases c9 : x4_1 < (x3_1.length : Int)
       ·rw [if_pos c9] at H
        have c9b0 : decide (x4_1 < (x3_1.length : Int)) = true := decide_eq_true c9
        clear c9
        obtain ⟨y155, hy155⟩ : ∃ y_ : List (S32), y_ = (x3_1.set (x4_1 : Int).toNat (⟨t146, t147, (⟨t148, t149, t150⟩ : S29), t151, t152⟩ : S32)) := ⟨_, rfl⟩
        replace H : (laws_toExpS.l0 E_ k1 l0 y155 (wrap64 (x4_1 + 1))) = some r := by first | (rw [hy155]; with_reducible exact H) | (have H2_ := (Option.bind_some _ _).symm.trans H; rw [hy155]; with_reducible exact H2_) | (have H2_ := (Option.bind_some _ _).symm.trans H; with_reducible exact H2_) | with_reducible exact H | (rw [hy155]; exact H) | exact H
        have Ny155 := Aside0.mk hy155
        clear hy155
        have H' := Aside0.mk H
        clear H
        have p145 : 0 ≤ (x4_1 : Int) := of_decide_eq_true (by first | (with_reducible assumption) | assumption)
        have q145 : x4_1 < (l0.length : Int) := of_decide_eq_true (by first | (with_reducible assumption) | assumption)
        obtain ⟨ad145, A145_6, c145_6, e145, hx145_0, hx145_1, hx145_2, hx145_3, hx145_4, hx145_5, hx145_6, hl145_6, hi145_6⟩ := at_T26 HR0.out x4_1 p145 q145
        cases e145
        replace hx145_0 := hb_ HB hx145_0
        replace hx145_1 := hb_ HB hx145_1
        replace hx145_2 := hb_ HB hx145_2
        replace hx145_3 := hb_ HB hx145_3
        replace hx145_4 := hb_ HB hx145_4
        replace hx145_5 := hb_ HB hx145_5
        replace hx145_6 := hb_ HB hx145_6
        have HR145_6 := Aside0.mk hi145_6
        have HC145_6 := Aside0.mk hl145_6
        clear hi145_6 hl145_6
        replace p145 := eq_true p145
        replace q145 := eq_true q145
        go_wp2_with (first | ((with_reducible refine gate_callee (f := 9) rfl ?_); refine gsL_ (some 20) Tryd.func9 #[.agg #[.int .i64 ((rd_T26 l0 x4_1).f0), .int .i64 ((rd_T26 l0 x4_1).f1), .int .i64 ((rd_T26 l0 x4_1).f2.f0), .int .i64 ((rd_T26 l0 x4_1).f2.f1), .string ((rd_T26 l0 x4_1).f2.f2), .string ((rd_T26 l0 x4_1).f3), .slice A145_6 ((rd_T26 l0 x4_1).f4).length c145_6]] ?_; (with_reducible refine (hE_ ((rd_T26 l0 x4_1).f0) ((rd_T26 l0 x4_1).f1) ((rd_T26 l0 x4_1).f2.f0) ((rd_T26 l0 x4_1).f2.f1) ((rd_T26 l0 x4_1).f2.f2) ((rd_T26 l0 x4_1).f3) _ _ ((rd_T26 l0 x4_1).f4) t146 t147 t148 t149 t150 t151 t152 _ ?side1 ?side2 A8.out).mono ?_); (case side1 => exact ck_ (Kd.C_below HR145_6.out HB.out)); (case side2 => exact HC145_6.out); rintro e w11 ⟨v153, rfl, ho0, hb⟩; refine ⟨_, rfl, ?_⟩; have HO154 := Aside0.mk (Kd.R_lower (Kd.R_new' ho0 (Kd.R_lt (rk_ HO_3.out))) (below_size bb_)); replace HO_3 := Aside0.mk (Kd.R_elder' (rk_ HO_3.out) (Kd.R_base ho0) hb); replace HB := bs_ hb; (try clear hb); (try clear hb2); (try clear hk); (try clear hi); (try clear ho0); have p10 : 0 ≤ (x4_1 : Int) := of_decide_eq_true (by first | (with_reducible assumption) | assumption); have q10 : (x4_1 : Int) < ((x3_1.length : Int) : Int) := of_decide_eq_true (by first | (with_reducible assumption) | assumption); obtain ⟨go10, co10, eo10, gb10, gl10, cl10, HG10⟩ := Kd.R_form HO_3.out (by omega); (first | cases eo10 | (injection eo10 with ea_ en_ ec_; (first | subst ea_ | (injection ea_ with ea_; subst ea_)); subst ec_; clear en_)); have GB10 := Aside0.mk gb10; have GG10 := Aside0.mk HG10; clear gb10 gl10 HG10; obtain ⟨ce10, hcl10, hM10, hcc10, hfr10⟩ := Kd.R_elem HO_3.out z32 (x4_1 : Int) p10 q10; obtain ⟨ve10_6, rfl, ge10_6⟩ := k32_openM hM10; have hx10_0 : w11.cell? ⟨go10, (x4_1 : Int).toNat * 7, none⟩ = some (.int .i64 ((rd_T32 x3_1 x4_1).f0)) := hcc10 0 _ rfl; have hx10_1 : w11.cell? ⟨go10, (x4_1 : Int).toNat * 7 + 1, none⟩ = some (.int .i64 ((rd_T32 x3_1 x4_1).f1)) := hcc10 1 _ rfl; have hx10_2 : w11.cell? ⟨go10, (x4_1 : Int).toNat * 7 + 2, none⟩ = some (.int .i64 ((rd_T32 x3_1 x4_1).f2.f0)) := hcc10 2 _ rfl; have hx10_3 : w11.cell? ⟨go10, (x4_1 : Int).toNat * 7 + 3, none⟩ = some (.int .i64 ((rd_T32 x3_1 x4_1).f2.f1)) := hcc10 3 _ rfl; have hx10_4 : w11.cell? ⟨go10, (x4_1 : Int).toNat * 7 + 4, none⟩ = some (.string ((rd_T32 x3_1 x4_1).f2.f2)) := hcc10 4 _ rfl; have hx10_5 : w11.cell? ⟨go10, (x4_1 : Int).toNat * 7 + 5, none⟩ = some (.string ((rd_T32 x3_1 x4_1).f3)) := hcc10 5 _ rfl; have hx10_6 : w11.cell? ⟨go10, (x4_1 : Int).toNat * 7 + 6, none⟩ = some (ve10_6) := hcc10 6 _ rfl; have hf10_0 : w11.frozen? ⟨go10, (x4_1 : Int).toNat * 7, none⟩ = false := hfr10 0; have hf10_1 : w11.frozen? ⟨go10, (x4_1 : Int).toNat * 7 + 1, none⟩ = false := hfr10 1; have hf10_2 : w11.frozen? ⟨go10, (x4_1 : Int).toNat * 7 + 2, none⟩ = false := hfr10 2; have hf10_3 : w11.frozen? ⟨go10, (x4_1 : Int).toNat * 7 + 3, none⟩ = false := hfr10 3; have hf10_4 : w11.frozen? ⟨go10, (x4_1 : Int).toNat * 7 + 4, none⟩ = false := hfr10 4; have hf10_5 : w11.frozen? ⟨go10, (x4_1 : Int).toNat * 7 + 5, none⟩ = false := hfr10 5; have hf10_6 : w11.frozen? ⟨go10, (x4_1 : Int).toNat * 7 + 6, none⟩ = false := hfr10 6; clear hcl10 hcc10 hfr10 hM10; replace p10 := eq_true p10; replace q10 := eq_true q10; obtain ⟨Ao12, co12, eo12⟩ := Kd.R_slice HO154.out; subst eo12; have n_ := Aside0.mk (Kd.R_mono (ok' := (fun k_ => some k_ ≠ (.slice Ao12 t152.length co12 : Value).ownBlock)) HO_3.out (fun k_ hk => hk.2)); clear HO_3; have HO_3 := n_; clear n_; have HX13 := Aside0.mk (show Kd.R k32 32 w11 w.heap.size (fun _ => True) (.slice (some ⟨go10, 0, none⟩) x3_1.length co10) x3_1 from (rk_ (Kd.R_mono HO_3.out (fun _ hk => trivial)))); obtain ⟨ce13, hcl13, hM13, hcc13, hfr13⟩ := Kd.R_elem HX13.out z32 (x4_1 : Int) (of_decide_eq_true (by first | (with_reducible assumption) | assumption)) (by have h_ : (x4_1 : Int) < ((x3_1.length : Int) : Int) := of_decide_eq_true (by first | (with_reducible assumption) | assumption); first | exact h_ | (have e_ := (Kd.R_reads' HO_3.out).1; omega) | simpa using h_); obtain ⟨ve13_6, rfl, ge13_6⟩ := k32_openM hM13; have HP13 := Kd.R_seg HX13.out (x4_1 : Int) (of_decide_eq_true (by first | (with_reducible assumption) | assumption)) (by have h_ : (x4_1 : Int) < ((x3_1.length : Int) : Int) := of_decide_eq_true (by first | (with_reducible assumption) | assumption); first | exact h_ | (have e_ := (Kd.R_reads' HO_3.out).1; omega) | simpa using h_) (seg := [.int .i64 t146, .int .i64 t147, .int .i64 t148, .int .i64 t149, .string t150, .string t151, .slice Ao12 t152.length co12]) (j := 0) hcl13 hcc13 (show 7 ≤ 7 from by decide) (x' := (⟨t146, t147, (⟨t148, t149, t150⟩ : S29), t151, t152⟩ : S32)) (k32_mkM _ _ _ (⟨t146, t147, (⟨t148, t149, t150⟩ : S29), t151, t152⟩ : S32) (Kd.R_mono (HO154.out) (fun k_ hk => ⟨trivial, fun e_ => (hk.2) (by rw [e_]; rfl)⟩))) (fun _ hk => hk); have hx13_0 := hcc13 0 _ rfl; (try simp only [show (k32).sz = 7 from rfl, Nat.mul_one, Nat.add_zero] at hx13_0); have hf13_0 := hfr13 0; (try simp only [show (k32).sz = 7 from rfl, Nat.mul_one, Nat.add_zero] at hf13_0); have hx13_1 := hcc13 1 _ rfl; (try simp only [show (k32).sz = 7 from rfl, Nat.mul_one, Nat.add_zero] at hx13_1); have hf13_1 := hfr13 1; (try simp only [show (k32).sz = 7 from rfl, Nat.mul_one, Nat.add_zero] at hf13_1); have hx13_2 := hcc13 2 _ rfl; (try simp only [show (k32).sz = 7 from rfl, Nat.mul_one, Nat.add_zero] at hx13_2); have hf13_2 := hfr13 2; (try simp only [show (k32).sz = 7 from rfl, Nat.mul_one, Nat.add_zero] at hf13_2); have hx13_3 := hcc13 3 _ rfl; (try simp only [show (k32).sz = 7 from rfl, Nat.mul_one, Nat.add_zero] at hx13_3); have hf13_3 := hfr13 3; (try simp only [show (k32).sz = 7 from rfl, Nat.mul_one, Nat.add_zero] at hf13_3); have hx13_4 := hcc13 4 _ rfl; (try simp only [show (k32).sz = 7 from rfl, Nat.mul_one, Nat.add_zero] at hx13_4); have hf13_4 := hfr13 4; (try simp only [show (k32).sz = 7 from rfl, Nat.mul_one, Nat.add_zero] at hf13_4); have hx13_5 := hcc13 5 _ rfl; (try simp only [show (k32).sz = 7 from rfl, Nat.mul_one, Nat.add_zero] at hx13_5); have hf13_5 := hfr13 5; (try simp only [show (k32).sz = 7 from rfl, Nat.mul_one, Nat.add_zero] at hf13_5); have hx13_6 := hcc13 6 _ rfl; (try simp only [show (k32).sz = 7 from rfl, Nat.mul_one, Nat.add_zero] at hx13_6); have hf13_6 := hfr13 6; (try simp only [show (k32).sz = 7 from rfl, Nat.mul_one, Nat.add_zero] at hf13_6); clear hcl13 hcc13 hfr13 hM13) | ((with_reducible refine gate_store (t := 32) (p := 21) rfl ?_); refine store_event (t := 32) (p := 21) (v := ?vo_w14) (w1 := (((((((w11.setCell ⟨go10, (x4_1 : Int).toNat * 7, none⟩ (.int .i64 t146)).setCell ⟨go10, (x4_1 : Int).toNat * 7 + 1, none⟩ (.int .i64 t147)).setCell ⟨go10, (x4_1 : Int).toNat * 7 + 2, none⟩ (.int .i64 t148)).setCell ⟨go10, (x4_1 : Int).toNat * 7 + 3, none⟩ (.int .i64 t149)).setCell ⟨go10, (x4_1 : Int).toNat * 7 + 4, none⟩ (.string t150)).setCell ⟨go10, (x4_1 : Int).toNat * 7 + 5, none⟩ (.string t151)).setCell ⟨go10, (x4_1 : Int).toNat * 7 + 6, none⟩ (.slice Ao12 t152.length co12))) ?hg ?ho ?hn ?hr ?_; (case ho => rfl); (case hg => rfl); (case hn => rfl); (case hr => first | (go_simp; done) | (go_simp; rfl)); intro w14 hw; have hg : w11.grownBy w14 (some go10) := (by rw [hw]; exact HP13.2); have hp_ : Kd.R k32 32 w14 w.heap.size (fun _ => True) (.slice (some ⟨go10, 0, none⟩) x3_1.length co10) y155 := (by rw [hw, Ny155.out]; exact HP13.1); clear HP13; replace HO_3 := Aside0.mk (hp_); replace HB := Aside0.mk ((by rw [hw]; exact below_set (below_set (below_set (below_set (below_set (below_set (below_set (HB.out) GB10.out) GB10.out) GB10.out) GB10.out) GB10.out) GB10.out) GB10.out : Below w.heap.size w w14)); clear HO154; clear hg hw hp_))
        go_roundg k1
        case measure => have := HK1.out; omega
        case rel => exact ⟨(y155), (wrap64 (x4_1 + 1)), rs_, H', ⟨by have := HK1.out; omega⟩, ⟨by (with_reducible repeat (first | apply Kd.R_alloc | apply Kd.R_drewN | apply Kd.R_drew)); exact HO_3.out⟩, ⟨bb_⟩⟩
       ·rw [if_neg c9] at H
        exact absurd H (by simp)
      ·rw [if_neg c7] at H
       exact absurd H (by simp)
     ·rw [if_neg c6] at H
      have c6b0 : decide (x4_1 < (l0.length : Int)) = false := decide_eq_false c6
      clear c6
      obtain rfl := Option.some.inj H
      go_wp2
      go_ret
      exact ⟨_, by first | rfl | (simp [errW_none, errW_some] <;> rfl) | (simp [*, errW_none, errW_some] <;> rfl), by (with_reducible repeat (first | apply Kd.R_alloc | apply Kd.R_drewN | apply Kd.R_drew)); exact HO_3.out, by repeat (first | (with_reducible first | exact HB.out | apply below_alloc | apply pw_below_drewN | apply below_drew1) | exact HB.out)⟩
  ·rw [if_neg c3] at H
   exact absurd H (by simp)
 ·rw [if_neg c2] at H
  exact absurd H (by simp)

/-! ### laws_toExp: function 9 -/
def laws_toExp.f : Nat → Int → Int → Int → Int → ByteArray → ByteArray → (List (S26)) → Option (Int × Int × Int × Int × ByteArray × ByteArray × (List (S32)))
 | 0, _, _, _, _, _, _, _ => none
 | k + 1, a0_0, a0_1, a0_2, a0_3, a0_4, a0_5, l0_6 => (laws_toValue.f a0_2 a0_3 a0_4).bind fun bt159 => ((laws_toExpS.f (laws_toExp.f k) k l0_6).bind fun t162 => (some (a0_0, a0_1, bt159.1, bt159.2.1, bt159.2.2, a0_5, t162)))
set_option maxHeartbeats 8000000 in
set_option maxRecDepth 100000 in
theorem laws_toExp.calls : ∀ (k : Nat) (a0_0 : Int) (a0_1 : Int) (a0_2 : Int) (a0_3 : Int) (a0_4 : ByteArray) (a0_5 : ByteArray) (A0_6 : Option Addr) (c0_6 : Nat) (l0_6 : List (S26)) (r1 : Int) (r2 : Int) (r3 : Int) (r4 : Int) (r5 : ByteArray) (r6 : ByteArray) (r7 : List (S32)) (w : World) (hr0_6 : Kd.C k26 w A0_6 l0_6.length l0_6) (hc0_6 : l0_6.length ≤ c0_6) (h : laws_toExp.f k a0_0 a0_1 a0_2 a0_3 a0_4 a0_5 l0_6 = some (r1, r2, r3, r4, r5, r6, r7)),
  Calls Tryd.prog 9 #[.agg #[.int .i64 a0_0, .int .i64 a0_1, .int .i64 a0_2, .int .i64 a0_3, .string a0_4, .string a0_5, .slice A0_6 l0_6.length c0_6]] w fun e w' => ∃ v6_ : Value, e = .returned (.agg #[.int .i64 r1, .int .i64 r2, .int .i64 r3, .int .i64 r4, .string r5, .string r6, v6_]) ∧ Kd.R k32 32 w' w.heap.size (fun _ => True) v6_ r7 ∧ Below w.heap.size w w' := by
 intro k
 induction k with
 | zero =>
  intro a0_0 a0_1 a0_2 a0_3 a0_4 a0_5 A0_6 c0_6 l0_6 r1 r2 r3 r4 r5 r6 r7 w hr0_6 hc0_6 h
  exact absurd h (by simp [laws_toExp.f])
 | succ k ih_ =>
  intro a0_0 a0_1 a0_2 a0_3 a0_4 a0_5 A0_6 c0_6 l0_6 r1 r2 r3 r4 r5 r6 r7 w hr0_6 hc0_6 h
  have hu26 := Tryd.underlying26
  have hu32 := Tryd.underlying32
  have hu23 := Tryd.underlying23
  have hu29 := Tryd.underlying29
  have HR0_6 := Aside0.mk hr0_6
  have HC0_6 := Aside0.mk hc0_6
  clear hr0_6 hc0_6
  have HB := Aside0.mk (Below.refl w.heap.size w)
  have H : ((laws_toValue.f a0_2 a0_3 a0_4).bind fun bt159 => ((laws_toExpS.f (laws_toExp.f k) k l0_6).bind fun t162 => (some (a0_0, a0_1, bt159.1, bt159.2.1, bt159.2.2, a0_5, t162)))) = some (r1, r2, r3, r4, r5, r6, r7) := h
  clear h
  replace H := Option.bind_eq_some_iff.mp H
  obtain ⟨⟨t159, t160, t161⟩, A20, H⟩ := H
  replace H : ((laws_toExpS.f (laws_toExp.f k) k l0_6).bind fun t162 => (some (a0_0, a0_1, t159, t160, t161, a0_5, t162))) = some (r1, r2, r3, r4, r5, r6, r7) := H
  have A2 := Aside0.mk A20
  clear A20
  replace H := Option.bind_eq_some_iff.mp H
  obtain ⟨t162, A30, H⟩ := H
  replace H : (some (a0_0, a0_1, t159, t160, t161, a0_5, t162)) = some (r1, r2, r3, r4, r5, r6, r7) := H
  have A3 := Aside0.mk A30
  clear A30
  simp only [Option.some.injEq, Prod.mk.injEq] at H
  obtain ⟨rfl, rfl, rfl, rfl, rfl, rfl, rfl⟩ := H
  go_enter Tryd.func9, Tryd.ntmps9
  go_wp2_with (first | ((with_reducible refine gate_dst (N := 1) rfl ?_); refine bx_ 1 #[.int .i64 a0_0, .int .i64 a0_1, .int .i64 a0_2, .int .i64 a0_3, .string a0_4, .string a0_5, .slice A0_6 l0_6.length c0_6] 26 ?_; intro gb156 hg w4 hbox hb; have BK156 := Aside0.mk (hbox); have GW156 := gw_ hg; have GE156 := gw_ hg; replace HB := bs_ hb; clear hb hbox hg) | ((with_reducible refine gate_dst (N := 2) rfl ?_); refine bx_ 2 #[.int .i64 0, .int .i64 0, .int .i64 0, .int .i64 0, .string (⟨#[]⟩ : ByteArray), .string (⟨#[]⟩ : ByteArray), .slice none 0 0] 32 ?_; intro gb157 hg w5 hbox hb; have BK157 := Aside0.mk (hbox); have GW157 := gw_ hg; have GE157 := gw_ hg; have NB156_157 := nl_ hg BK156; have NB157_156 := ng_ hg BK156; replace BK156 := bkb_ BK156 hb; replace HB := bs_ hb; clear hb hbox hg) | ((with_reducible refine gate_dst (N := 3) rfl ?_); refine bx_ 3 #[.int .i64 0, .int .i64 0, .int .i64 0, .int .i64 0, .string (⟨#[]⟩ : ByteArray), .string (⟨#[]⟩ : ByteArray), .slice none 0 0] 32 ?_; intro gb158 hg w6 hbox hb; have BK158 := Aside0.mk (hbox); have GW158 := gw_ hg; have GE158 := gw_ hg; have NB156_158 := nl_ hg BK156; have NB158_156 := ng_ hg BK156; have NB157_158 := nl_ hg BK157; have NB158_157 := ng_ hg BK157; replace BK156 := bkb_ BK156 hb; replace BK157 := bkb_ BK157 hb; replace HB := bs_ hb; clear hb hbox hg; have hnb7 := NB156_157.out; have hnc7 := NB157_156.out; have hnb8 := NB156_158.out; have hnc8 := NB158_156.out; obtain ⟨hcz9_0, hcz9_1, hcz9_2, hcz9_3, hcz9_4, hcz9_5, hcz9_6, hfz9_0, hfz9_1, hfz9_2, hfz9_3, hfz9_4, hfz9_5, hfz9_6⟩ := b7_ BK156; have hnb10 := NB158_157.out; have hnc10 := NB157_158.out; obtain ⟨hcz11_0, hcz11_1, hcz11_2, hcz11_3, hcz11_4, hcz11_5, hcz11_6, hfz11_0, hfz11_1, hfz11_2, hfz11_3, hfz11_4, hfz11_5, hfz11_6⟩ := b7_ BK158) | ((with_reducible refine gate_callee (f := 46) rfl ?_); refine gsL_ (some 12) Tryd.func46 #[.agg #[.int .i64 a0_2, .int .i64 a0_3, .string a0_4]] ?_; (with_reducible refine (laws_toValue.calls a0_2 a0_3 a0_4 t159 t160 t161 _ A2.out).mono ?_); rintro e w12 ⟨rfl, hb⟩; refine ⟨_, rfl, ?_⟩; replace BK156 := Aside0.mk (blk_below (g := gb156) (o := .cells #[.int .i64 a0_0, .int .i64 a0_1, .int .i64 a0_2, .int .i64 a0_3, .string a0_4, .string a0_5, .slice A0_6 l0_6.length c0_6] 26 (0, 0)) (bf2_ NB156_158 (bkx_ BK156.out)) hb); replace BK157 := Aside0.mk (blk_below (g := gb157) (o := .cells #[.int .i64 0, .int .i64 0, .int .i64 0, .int .i64 0, .string (⟨#[]⟩ : ByteArray), .string (⟨#[]⟩ : ByteArray), .slice none 0 0] 32 (0, 0)) (bf2_ NB157_158 (bkx_ BK157.out)) hb); replace BK158 := Aside0.mk (blk_below (g := gb158) (o := .cells #[.int .i64 a0_0, .int .i64 a0_1, .int .i64 0, .int .i64 0, .string (⟨#[]⟩ : ByteArray), .string (⟨#[]⟩ : ByteArray), .slice none 0 0] 32 (0, 0)) (by (with_reducible repeat (first | refine blk_drewN ?_ _ | refine blk_drew ?_ | refine blk_alloc ?_ _)); refine blk_put (cs := #[.int .i64 a0_0, .int .i64 0, .int .i64 0, .int .i64 0, .string (⟨#[]⟩ : ByteArray), .string (⟨#[]⟩ : ByteArray), .slice none 0 0]) ?_ 1 _ rfl; (with_reducible repeat (first | refine blk_drewN ?_ _ | refine blk_drew ?_ | refine blk_alloc ?_ _)); refine blk_put (cs := #[.int .i64 0, .int .i64 0, .int .i64 0, .int .i64 0, .string (⟨#[]⟩ : ByteArray), .string (⟨#[]⟩ : ByteArray), .slice none 0 0]) ?_ 0 _ rfl; (with_reducible repeat (first | refine blk_drewN ?_ _ | refine blk_drew ?_ | refine blk_alloc ?_ _)); exact BK158.out) hb); replace HB := bs_ hb; (try clear hb); (try clear hb2); (try clear hk); (try clear hi); obtain ⟨hcz13_0, hcz13_1, hcz13_2, hcz13_3, hcz13_4, hcz13_5, hcz13_6, hfz13_0, hfz13_1, hfz13_2, hfz13_3, hfz13_4, hfz13_5, hfz13_6⟩ := b7_ BK158; obtain ⟨hcz14_0, hcz14_1, hcz14_2, hcz14_3, hcz14_4, hcz14_5, hcz14_6, hfz14_0, hfz14_1, hfz14_2, hfz14_3, hfz14_4, hfz14_5, hfz14_6⟩ := b7_ BK156) | ((with_reducible refine gate_callee (f := 47) rfl ?_); refine gsL_ (some 19) Tryd.func47 #[.slice A0_6 l0_6.length c0_6] ?_; (with_reducible refine (laws_toExpS.calls (laws_toExp.f k) ih_ k _ _ l0_6 t162 _ ?side1 ?side2 A3.out).mono ?_); (case side1 => exact Kd.C_below HR0_6.out bb_); (case side2 => exact HC0_6.out); rintro e w15 ⟨v163, rfl, ho0, hb⟩; refine ⟨_, rfl, ?_⟩; have HO164 := Aside0.mk (Kd.R_lower (Kd.R_newB (Kd.R_newB ho0 (g := gb157) (o := .cells #[.int .i64 0, .int .i64 0, .int .i64 0, .int .i64 0, .string (⟨#[]⟩ : ByteArray), .string (⟨#[]⟩ : ByteArray), .slice none 0 0] 32 (0, 0)) (bf4_ NB157_158 (bkx_ BK157.out))) (g := gb158) (o := .cells #[.int .i64 a0_0, .int .i64 a0_1, .int .i64 t159, .int .i64 t160, .string t161, .string a0_5, .slice none 0 0] 32 (0, 0)) (by (with_reducible repeat (first | refine blk_drewN ?_ _ | refine blk_drew ?_ | refine blk_alloc ?_ _)); refine blk_put (cs := #[.int .i64 a0_0, .int .i64 a0_1, .int .i64 t159, .int .i64 t160, .string t161, .string (⟨#[]⟩ : ByteArray), .slice none 0 0]) ?_ 5 _ rfl; (with_reducible repeat (first | refine blk_drewN ?_ _ | refine blk_drew ?_ | refine blk_alloc ?_ _)); refine blk_put (cs := #[.int .i64 a0_0, .int .i64 a0_1, .int .i64 t159, .int .i64 t160, .string (⟨#[]⟩ : ByteArray), .string (⟨#[]⟩ : ByteArray), .slice none 0 0]) ?_ 4 _ rfl; (with_reducible repeat (first | refine blk_drewN ?_ _ | refine blk_drew ?_ | refine blk_alloc ?_ _)); refine blk_put (cs := #[.int .i64 a0_0, .int .i64 a0_1, .int .i64 t159, .int .i64 0, .string (⟨#[]⟩ : ByteArray), .string (⟨#[]⟩ : ByteArray), .slice none 0 0]) ?_ 3 _ rfl; (with_reducible repeat (first | refine blk_drewN ?_ _ | refine blk_drew ?_ | refine blk_alloc ?_ _)); refine blk_put (cs := #[.int .i64 a0_0, .int .i64 a0_1, .int .i64 0, .int .i64 0, .string (⟨#[]⟩ : ByteArray), .string (⟨#[]⟩ : ByteArray), .slice none 0 0]) ?_ 2 _ rfl; (with_reducible repeat (first | refine blk_drewN ?_ _ | refine blk_drew ?_ | refine blk_alloc ?_ _)); exact BK158.out)) (below_size bb_)); replace BK156 := Aside0.mk (blk_below (g := gb156) (o := .cells #[.int .i64 a0_0, .int .i64 a0_1, .int .i64 a0_2, .int .i64 a0_3, .string a0_4, .string a0_5, .slice A0_6 l0_6.length c0_6] 26 (0, 0)) (bf4_ NB156_158 (bkx_ BK156.out)) hb); replace BK157 := Aside0.mk (blk_below (g := gb157) (o := .cells #[.int .i64 0, .int .i64 0, .int .i64 0, .int .i64 0, .string (⟨#[]⟩ : ByteArray), .string (⟨#[]⟩ : ByteArray), .slice none 0 0] 32 (0, 0)) (bf4_ NB157_158 (bkx_ BK157.out)) hb); replace BK158 := Aside0.mk (blk_below (g := gb158) (o := .cells #[.int .i64 a0_0, .int .i64 a0_1, .int .i64 t159, .int .i64 t160, .string t161, .string a0_5, .slice none 0 0] 32 (0, 0)) (by (with_reducible repeat (first | refine blk_drewN ?_ _ | refine blk_drew ?_ | refine blk_alloc ?_ _)); refine blk_put (cs := #[.int .i64 a0_0, .int .i64 a0_1, .int .i64 t159, .int .i64 t160, .string t161, .string (⟨#[]⟩ : ByteArray), .slice none 0 0]) ?_ 5 _ rfl; (with_reducible repeat (first | refine blk_drewN ?_ _ | refine blk_drew ?_ | refine blk_alloc ?_ _)); refine blk_put (cs := #[.int .i64 a0_0, .int .i64 a0_1, .int .i64 t159, .int .i64 t160, .string (⟨#[]⟩ : ByteArray), .string (⟨#[]⟩ : ByteArray), .slice none 0 0]) ?_ 4 _ rfl; (with_reducible repeat (first | refine blk_drewN ?_ _ | refine blk_drew ?_ | refine blk_alloc ?_ _)); refine blk_put (cs := #[.int .i64 a0_0, .int .i64 a0_1, .int .i64 t159, .int .i64 0, .string (⟨#[]⟩ : ByteArray), .string (⟨#[]⟩ : ByteArray), .slice none 0 0]) ?_ 3 _ rfl; (with_reducible repeat (first | refine blk_drewN ?_ _ | refine blk_drew ?_ | refine blk_alloc ?_ _)); refine blk_put (cs := #[.int .i64 a0_0, .int .i64 a0_1, .int .i64 0, .int .i64 0, .string (⟨#[]⟩ : ByteArray), .string (⟨#[]⟩ : ByteArray), .slice none 0 0]) ?_ 2 _ rfl; (with_reducible repeat (first | refine blk_drewN ?_ _ | refine blk_drew ?_ | refine blk_alloc ?_ _)); exact BK158.out) hb); replace HB := bs_ hb; (try clear hb); (try clear hb2); (try clear hk); (try clear hi); (try clear ho0); obtain ⟨Ao16, co16, eo16⟩ := Kd.R_slice HO164.out; subst eo16; obtain ⟨hcz17_0, hcz17_1, hcz17_2, hcz17_3, hcz17_4, hcz17_5, hcz17_6, hfz17_0, hfz17_1, hfz17_2, hfz17_3, hfz17_4, hfz17_5, hfz17_6⟩ := b7_ BK158; obtain ⟨hcz18_0, hcz18_1, hcz18_2, hcz18_3, hcz18_4, hcz18_5, hcz18_6, hfz18_0, hfz18_1, hfz18_2, hfz18_3, hfz18_4, hfz18_5, hfz18_6⟩ := b7_ BK157))
  refine bodyPost_ret (results_cell_row rfl _ _ gb157 32 #[.int .i64 a0_0, .int .i64 a0_1, .int .i64 t159, .int .i64 t160, .string t161, .string a0_5, .slice Ao16 t162.length co16] (0, 0) _ rfl (by (with_reducible repeat (first | refine blk_drewN ?_ _ | refine blk_drew ?_ | refine blk_alloc ?_ _)); refine blk_put (cs := #[.int .i64 a0_0, .int .i64 a0_1, .int .i64 t159, .int .i64 t160, .string t161, .string a0_5, .slice none 0 0]) ?_ 6 _ rfl; (with_reducible repeat (first | refine blk_drewN ?_ _ | refine blk_drew ?_ | refine blk_alloc ?_ _)); refine blk_put (cs := #[.int .i64 a0_0, .int .i64 a0_1, .int .i64 t159, .int .i64 t160, .string t161, .string (⟨#[]⟩ : ByteArray), .slice none 0 0]) ?_ 5 _ rfl; (with_reducible repeat (first | refine blk_drewN ?_ _ | refine blk_drew ?_ | refine blk_alloc ?_ _)); refine blk_put (cs := #[.int .i64 a0_0, .int .i64 a0_1, .int .i64 t159, .int .i64 t160, .string (⟨#[]⟩ : ByteArray), .string (⟨#[]⟩ : ByteArray), .slice none 0 0]) ?_ 4 _ rfl; (with_reducible repeat (first | refine blk_drewN ?_ _ | refine blk_drew ?_ | refine blk_alloc ?_ _)); refine blk_put (cs := #[.int .i64 a0_0, .int .i64 a0_1, .int .i64 t159, .int .i64 0, .string (⟨#[]⟩ : ByteArray), .string (⟨#[]⟩ : ByteArray), .slice none 0 0]) ?_ 3 _ rfl; (with_reducible repeat (first | refine blk_drewN ?_ _ | refine blk_drew ?_ | refine blk_alloc ?_ _)); refine blk_put (cs := #[.int .i64 a0_0, .int .i64 a0_1, .int .i64 0, .int .i64 0, .string (⟨#[]⟩ : ByteArray), .string (⟨#[]⟩ : ByteArray), .slice none 0 0]) ?_ 2 _ rfl; (with_reducible repeat (first | refine blk_drewN ?_ _ | refine blk_drew ?_ | refine blk_alloc ?_ _)); refine blk_put (cs := #[.int .i64 a0_0, .int .i64 0, .int .i64 0, .int .i64 0, .string (⟨#[]⟩ : ByteArray), .string (⟨#[]⟩ : ByteArray), .slice none 0 0]) ?_ 1 _ rfl; (with_reducible repeat (first | refine blk_drewN ?_ _ | refine blk_drew ?_ | refine blk_alloc ?_ _)); refine blk_put (cs := #[.int .i64 0, .int .i64 0, .int .i64 0, .int .i64 0, .string (⟨#[]⟩ : ByteArray), .string (⟨#[]⟩ : ByteArray), .slice none 0 0]) ?_ 0 _ rfl; (with_reducible repeat (first | refine blk_drewN ?_ _ | refine blk_drew ?_ | refine blk_alloc ?_ _)); refine blk_far ?_ NB157_158.out _; (with_reducible repeat (first | refine blk_drewN ?_ _ | refine blk_drew ?_ | refine blk_alloc ?_ _)); exact BK157.out) Tryd.underlying32 rfl (by kernel_rfl)) rfl ?_
  exact ⟨_, by first | rfl | (simp [errW_none, errW_some] <;> rfl) | (simp [*, errW_none, errW_some] <;> rfl), by (with_reducible repeat (first | apply Kd.R_alloc | apply Kd.R_drewN | apply Kd.R_drew)); exact Kd.R_mono (Kd.R_far (p := ⟨gb157, 6, none⟩) (Kd.R_far (p := ⟨gb157, 5, none⟩) (Kd.R_far (p := ⟨gb157, 4, none⟩) (Kd.R_far (p := ⟨gb157, 3, none⟩) (Kd.R_far (p := ⟨gb157, 2, none⟩) (Kd.R_far (p := ⟨gb157, 1, none⟩) (Kd.R_far (p := ⟨gb157, 0, none⟩) (Kd.R_far (p := ⟨gb158, 6, none⟩) (Kd.R_mono (Kd.R_mono HO164.out (fun k_ hk => (⟨hk, hk.2⟩ : _ ∧ k_ ≠ gb158))) (fun k_ hk => (⟨hk, hk.1.1.2⟩ : _ ∧ k_ ≠ gb157))) (fun _ hk => hk.1.2) (.slice Ao16 t162.length co16)) (fun _ hk => hk.2) (.int .i64 a0_0)) (fun _ hk => hk.2) (.int .i64 a0_1)) (fun _ hk => hk.2) (.int .i64 t159)) (fun _ hk => hk.2) (.int .i64 t160)) (fun _ hk => hk.2) (.string t161)) (fun _ hk => hk.2) (.string a0_5)) (fun _ hk => hk.2) (.slice Ao16 t162.length co16)) (fun _ hk => trivial), by repeat (first | (with_reducible first | exact HB.out | apply below_alloc | apply pw_below_drewN | apply below_drew1 | refine below_set ?_ GE156.out | refine below_set ?_ GE157.out | refine below_set ?_ GE158.out) | exact HB.out)⟩

/-! ### impl_within: function 61 -/
def impl_within.f (a0 : Int) (a1 : Int) (a2 : Int) : Option (Bool) := if a1 ≤ a0 then (some (decide (a0 ≤ a2))) else (some false)
set_option maxHeartbeats 8000000 in
set_option maxRecDepth 100000 in
theorem impl_within.calls (a0 : Int) (a1 : Int) (a2 : Int) (r : Bool) (w : World) (h : impl_within.f a0 a1 a2 = some r) :
  Calls Tryd.prog 61 #[.int .i64 a0, .int .i64 a1, .int .i64 a2] w fun e w' => e = .returned (.bool r) ∧ Drawn0 w w' := by
 have H : (if a1 ≤ a0 then (some (decide (a0 ≤ a2))) else (some false)) = some r := h
 clear h
 by_cases c4 : a1 ≤ a0
 ·rw [if_pos c4] at H
  have c4b0 : decide (a1 ≤ a0) = true := decide_eq_true c4
  clear c4
  obtain rfl := Option.some.inj H
  go_enter Tryd.func61, Tryd.ntmps61
  go_wp2
  go_ret
  exact ⟨by first | rfl | (simp; done) | (simp [*]; done), by repeat (first | exact Drawn0.refl _ | apply Drawn0.step)⟩
 ·rw [if_neg c4] at H
  have c4b0 : decide (a1 ≤ a0) = false := decide_eq_false c4
  clear c4
  obtain rfl := Option.some.inj H
  go_enter Tryd.func61, Tryd.ntmps61
  go_wp2
  go_ret
  exact ⟨by first | rfl | (simp; done) | (simp [*]; done), by repeat (first | exact Drawn0.refl _ | apply Drawn0.step)⟩

end Go.Proofs.YthgdmdabdlgliaaDoor.PFnExactExpText
