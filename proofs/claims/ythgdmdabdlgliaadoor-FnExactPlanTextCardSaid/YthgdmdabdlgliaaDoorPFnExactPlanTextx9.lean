-- WRITTEN BY xprint.py, a program of this session over the kit's printer: by nobody's hand
-- PRESSED
import Derived.Test.YthgdmdabdlgliaaDoorPress
import Derived.Test.YthgdmdabdlgliaaDoorPFnExactPlanTextx0
import Derived.Test.YthgdmdabdlgliaaDoorPFnExactPlanTextx8
namespace Go.Proofs.YthgdmdabdlgliaaDoor.PFnExactPlanText
open Go.RowKit Go.Proofs.YthgdmdabdlgliaaDoorW.PrintWords Go.Proofs.YthgdmdabdlgliaaDoorW.PrintLast Go.Proofs.YthgdmdabdlgliaaDoorW.PrintMore
set_option linter.unusedVariables false
set_option linter.unusedSimpArgs false

/-! ### impl_expText: function 49 -/
def impl_expText.f : Nat → Int → Int → Int → Int → ByteArray → ByteArray → List (S32) → Option (ByteArray)
 | 0, _, _, _, _, _, _, _ => none
 | k + 1, a0_0, a0_1, a0_2, a0_3, a0_4, a0_5, l0_6 => if a0_0 = 0 then ((impl_DecText.f a0_1).bind fun t254 => (if 1 + t254.size ≤ 9223372036854775807 then (some ((⟨#[99]⟩ : ByteArray) ++ t254)) else (none))) else (if a0_0 = 1 then ((impl_ValueText.f a0_2 a0_3 a0_4).bind fun t255 => (some t255)) else (if a0_0 = 2 then (if 0 < (l0_6.length : Int) then ((impl_expText.f k ((rd_T32 l0_6 0).f0) ((rd_T32 l0_6 0).f1) ((rd_T32 l0_6 0).f2.f0) ((rd_T32 l0_6 0).f2.f1) ((rd_T32 l0_6 0).f2.f2) ((rd_T32 l0_6 0).f3) ((rd_T32 l0_6 0).f4)).bind fun t257 => (if 1 + t257.size ≤ 9223372036854775807 then (if ((⟨#[40]⟩ : ByteArray) ++ t257).size + 1 ≤ 9223372036854775807 then (if (((⟨#[40]⟩ : ByteArray) ++ t257) ++ (⟨#[32]⟩ : ByteArray)).size + a0_5.size ≤ 9223372036854775807 then (if ((((⟨#[40]⟩ : ByteArray) ++ t257) ++ (⟨#[32]⟩ : ByteArray)) ++ a0_5).size + 1 ≤ 9223372036854775807 then (if 1 < (l0_6.length : Int) then ((impl_expText.f k ((rd_T32 l0_6 1).f0) ((rd_T32 l0_6 1).f1) ((rd_T32 l0_6 1).f2.f0) ((rd_T32 l0_6 1).f2.f1) ((rd_T32 l0_6 1).f2.f2) ((rd_T32 l0_6 1).f3) ((rd_T32 l0_6 1).f4)).bind fun t259 => (if (((((⟨#[40]⟩ : ByteArray) ++ t257) ++ (⟨#[32]⟩ : ByteArray)) ++ a0_5) ++ (⟨#[32]⟩ : ByteArray)).size + t259.size ≤ 9223372036854775807 then (if ((((((⟨#[40]⟩ : ByteArray) ++ t257) ++ (⟨#[32]⟩ : ByteArray)) ++ a0_5) ++ (⟨#[32]⟩ : ByteArray)) ++ t259).size + 1 ≤ 9223372036854775807 then (some (((((((⟨#[40]⟩ : ByteArray) ++ t257) ++ (⟨#[32]⟩ : ByteArray)) ++ a0_5) ++ (⟨#[32]⟩ : ByteArray)) ++ t259) ++ (⟨#[41]⟩ : ByteArray))) else (none)) else (none))) else (none)) else (none)) else (none)) else (none)) else (none))) else (none)) else (if a0_0 = 3 then (if 0 < (l0_6.length : Int) then ((impl_expText.f k ((rd_T32 l0_6 0).f0) ((rd_T32 l0_6 0).f1) ((rd_T32 l0_6 0).f2.f0) ((rd_T32 l0_6 0).f2.f1) ((rd_T32 l0_6 0).f2.f2) ((rd_T32 l0_6 0).f3) ((rd_T32 l0_6 0).f4)).bind fun t261 => (if 4 + t261.size ≤ 9223372036854775807 then (if ((⟨#[110, 111, 116, 40]⟩ : ByteArray) ++ t261).size + 1 ≤ 9223372036854775807 then (some (((⟨#[110, 111, 116, 40]⟩ : ByteArray) ++ t261) ++ (⟨#[41]⟩ : ByteArray))) else (none)) else (none))) else (none)) else (if 0 < (l0_6.length : Int) then ((impl_expText.f k ((rd_T32 l0_6 0).f0) ((rd_T32 l0_6 0).f1) ((rd_T32 l0_6 0).f2.f0) ((rd_T32 l0_6 0).f2.f1) ((rd_T32 l0_6 0).f2.f2) ((rd_T32 l0_6 0).f3) ((rd_T32 l0_6 0).f4)).bind fun t263 => (if 7 + t263.size ≤ 9223372036854775807 then (if ((⟨#[105, 115, 110, 117, 108, 108, 40]⟩ : ByteArray) ++ t263).size + 1 ≤ 9223372036854775807 then (some (((⟨#[105, 115, 110, 117, 108, 108, 40]⟩ : ByteArray) ++ t263) ++ (⟨#[41]⟩ : ByteArray))) else (none)) else (none))) else (none)))))
def impl_expText.T7 : Bool × List (List Nat × List Nat) := (true, [([], []), ([0], [0]), ([1], [1]), ([2], [2]), ([3], [3]), ([4], [4]), ([5], [5]), ([], []), ([7], [7]), ([6, 8], [6, 8]), ([9], [9]), ([], []), ([11], [11]), ([12], [12]), ([13], [13]), ([14, 4], [14]), ([10, 15], [10, 15]), ([16], [16]), ([17, 15, 0, 1, 2, 3, 4, 5, 6, 7, 8, 9, 10, 11, 12, 13, 14, 15, 16, 17], [17])])
def impl_expText.B7 : List Nat := [0, 1, 3, 7, 15, 31, 63, 0, 128, 511, 1023, 0, 2048, 6144, 14336, 30751, 65535, 131071, 262143]
theorem impl_expText.tab7 : rtab .any (opsOf Tryd.f49 7) = impl_expText.T7 := by kernel_rfl
theorem impl_expText.bits7 : waitsOk impl_expText.T7.2 impl_expText.B7 = true := by kernel_rfl
set_option maxHeartbeats 8000000 in
set_option maxRecDepth 100000 in
theorem impl_expText.calls (k : Nat) : ∀ (a0_0 : Int) (a0_1 : Int) (a0_2 : Int) (a0_3 : Int) (a0_4 : ByteArray) (a0_5 : ByteArray) (A0_6 : Option Addr) (c0_6 : Nat) (l0_6 : List (S32)) (r : ByteArray) (w : World) (hr0_6 : Kd.C k32 w A0_6 l0_6.length l0_6) (hc0_6 : l0_6.length ≤ c0_6) (h : impl_expText.f k a0_0 a0_1 a0_2 a0_3 a0_4 a0_5 l0_6 = some r) (hM : MaxLenIn w := by first | assumption | exact MaxLenIn.drewN (by assumption) _ | exact MaxLenIn.later (by assumption) (by assumption) | exact MaxLenIn.drewN (MaxLenIn.later (by assumption) (by assumption)) _ | exact MaxLenIn.later (by assumption) ⟨by repeat (first | exact Aside0.out (by assumption) | apply below_alloc | apply pw_below_drewN | apply below_drew1 | refine below_set ?_ (Aside0.out (by assumption)))⟩),
  Calls Tryd.prog 49 #[.agg #[.int .i64 a0_0, .int .i64 a0_1, .int .i64 a0_2, .int .i64 a0_3, .string a0_4, .string a0_5, .slice A0_6 l0_6.length c0_6]] w fun e w' => e = .returned (.string r) ∧ Below w.heap.size w w' := by
 induction k using Nat.strongRecOn with
 | _ k ih =>
 intro a0_0 a0_1 a0_2 a0_3 a0_4 a0_5 A0_6 c0_6 l0_6 r w hr0_6 hc0_6 h hM
 cases k with
 | zero => exact absurd h (by simp [impl_expText.f])
 | succ k =>
 simp only [impl_expText.f] at h
 have hu32 := Tryd.underlying32
 have hu29 := Tryd.underlying29
 have HR0_6 := Aside0.mk hr0_6
 have HC0_6 := Aside0.mk hc0_6
 clear hr0_6 hc0_6
 have HB := Aside0.mk (Below.refl w.heap.size w)
 have H : (if a0_0 = 0 then ((impl_DecText.f a0_1).bind fun t254 => (if 1 + t254.size ≤ 9223372036854775807 then (some ((⟨#[99]⟩ : ByteArray) ++ t254)) else (none))) else (if a0_0 = 1 then ((impl_ValueText.f a0_2 a0_3 a0_4).bind fun t255 => (some t255)) else (if a0_0 = 2 then (if 0 < (l0_6.length : Int) then ((impl_expText.f k ((rd_T32 l0_6 0).f0) ((rd_T32 l0_6 0).f1) ((rd_T32 l0_6 0).f2.f0) ((rd_T32 l0_6 0).f2.f1) ((rd_T32 l0_6 0).f2.f2) ((rd_T32 l0_6 0).f3) ((rd_T32 l0_6 0).f4)).bind fun t257 => (if 1 + t257.size ≤ 9223372036854775807 then (if ((⟨#[40]⟩ : ByteArray) ++ t257).size + 1 ≤ 9223372036854775807 then (if (((⟨#[40]⟩ : ByteArray) ++ t257) ++ (⟨#[32]⟩ : ByteArray)).size + a0_5.size ≤ 9223372036854775807 then (if ((((⟨#[40]⟩ : ByteArray) ++ t257) ++ (⟨#[32]⟩ : ByteArray)) ++ a0_5).size + 1 ≤ 9223372036854775807 then (if 1 < (l0_6.length : Int) then ((impl_expText.f k ((rd_T32 l0_6 1).f0) ((rd_T32 l0_6 1).f1) ((rd_T32 l0_6 1).f2.f0) ((rd_T32 l0_6 1).f2.f1) ((rd_T32 l0_6 1).f2.f2) ((rd_T32 l0_6 1).f3) ((rd_T32 l0_6 1).f4)).bind fun t259 => (if (((((⟨#[40]⟩ : ByteArray) ++ t257) ++ (⟨#[32]⟩ : ByteArray)) ++ a0_5) ++ (⟨#[32]⟩ : ByteArray)).size + t259.size ≤ 9223372036854775807 then (if ((((((⟨#[40]⟩ : ByteArray) ++ t257) ++ (⟨#[32]⟩ : ByteArray)) ++ a0_5) ++ (⟨#[32]⟩ : ByteArray)) ++ t259).size + 1 ≤ 9223372036854775807 then (some (((((((⟨#[40]⟩ : ByteArray) ++ t257) ++ (⟨#[32]⟩ : ByteArray)) ++ a0_5) ++ (⟨#[32]⟩ : ByteArray)) ++ t259) ++ (⟨#[41]⟩ : ByteArray))) else (none)) else (none))) else (none)) else (none)) else (none)) else (none)) else (none))) else (none)) else (if a0_0 = 3 then (if 0 < (l0_6.length : Int) then ((impl_expText.f k ((rd_T32 l0_6 0).f0) ((rd_T32 l0_6 0).f1) ((rd_T32 l0_6 0).f2.f0) ((rd_T32 l0_6 0).f2.f1) ((rd_T32 l0_6 0).f2.f2) ((rd_T32 l0_6 0).f3) ((rd_T32 l0_6 0).f4)).bind fun t261 => (if 4 + t261.size ≤ 9223372036854775807 then (if ((⟨#[110, 111, 116, 40]⟩ : ByteArray) ++ t261).size + 1 ≤ 9223372036854775807 then (some (((⟨#[110, 111, 116, 40]⟩ : ByteArray) ++ t261) ++ (⟨#[41]⟩ : ByteArray))) else (none)) else (none))) else (none)) else (if 0 < (l0_6.length : Int) then ((impl_expText.f k ((rd_T32 l0_6 0).f0) ((rd_T32 l0_6 0).f1) ((rd_T32 l0_6 0).f2.f0) ((rd_T32 l0_6 0).f2.f1) ((rd_T32 l0_6 0).f2.f2) ((rd_T32 l0_6 0).f3) ((rd_T32 l0_6 0).f4)).bind fun t263 => (if 7 + t263.size ≤ 9223372036854775807 then (if ((⟨#[105, 115, 110, 117, 108, 108, 40]⟩ : ByteArray) ++ t263).size + 1 ≤ 9223372036854775807 then (some (((⟨#[105, 115, 110, 117, 108, 108, 40]⟩ : ByteArray) ++ t263) ++ (⟨#[41]⟩ : ByteArray))) else (none)) else (none))) else (none)))))) = some r := h
 clear h
 by_cases c2 : a0_0 = 0
 ·rw [if_pos c2] at H
  have c2b0 : (a0_0 == 0) = true := beq_iff_eq.mpr c2
  have c2b1 : (a0_0 != 0) = false := bne_eq_false_iff_eq.mpr c2
  clear c2
  replace H := Option.bind_eq_some_iff.mp H
  obtain ⟨t254, A30, H⟩ := H
  replace H : (if 1 + t254.size ≤ 9223372036854775807 then (some ((⟨#[99]⟩ : ByteArray) ++ t254)) else (none)) = some r := H
  have A3 := Aside0.mk A30
  clear A30
  by_cases c4 : 1 + t254.size ≤ 9223372036854775807
  ·rw [if_pos c4] at H
   have c4b0 := eq_true c4
   have c4b1 : decide (1 + t254.size ≤ 9223372036854775807) = true := decide_eq_true c4
   try have c4b2 : (9223372036854775807 < 1 + t254.size) = False := eq_false (Nat.not_lt.2 c4)
   obtain rfl := Option.some.inj H
   go_enter Tryd.func49, Tryd.ntmps49
   go_wp2_with (first | ((with_reducible refine gate_dst (N := 1) rfl ?_); refine bx_ 1 #[.int .i64 a0_0, .int .i64 a0_1, .int .i64 a0_2, .int .i64 a0_3, .string a0_4, .string a0_5, .slice A0_6 l0_6.length c0_6] 32 ?_; intro gb253 hg w5 hbox hb; have BK253 := Aside0.mk (hbox); have GW253 := gw_ hg; have GE253 := gw_ hg; replace HB := bs_ hb; clear hb hbox hg; obtain ⟨hcz6_0, hcz6_1, hcz6_2, hcz6_3, hcz6_4, hcz6_5, hcz6_6, hfz6_0, hfz6_1, hfz6_2, hfz6_3, hfz6_4, hfz6_5, hfz6_6⟩ := b7_ BK253) | ((with_reducible refine gate_callee (f := 30) rfl ?_); refine gsL_ (some 9) Tryd.func30 #[.int .i64 a0_1] ?_; (with_reducible refine (impl_DecText.calls a0_1 t254 _ A3.out).mono ?_); rintro e w7 ⟨rfl, hb⟩; refine ⟨_, rfl, ?_⟩; replace BK253 := bkb_ BK253 hb; replace HB := bs_ hb; (try clear hb); (try clear hb2); (try clear hk); (try clear hi)))
   go_ret
   exact ⟨er_, bb_⟩
  ·rw [if_neg c4] at H
   exact absurd H (by simp)
 ·rw [if_neg c2] at H
  have c2b0 : (a0_0 == 0) = false := beq_eq_false_iff_ne.mpr c2
  have c2b1 : (a0_0 != 0) = true := bne_iff_ne.mpr c2
  by_cases c8 : a0_0 = 1
  ·rw [if_pos c8] at H
   have c8b0 : (a0_0 == 1) = true := beq_iff_eq.mpr c8
   have c8b1 : (a0_0 != 1) = false := bne_eq_false_iff_eq.mpr c8
   clear c8
   replace H := Option.bind_eq_some_iff.mp H
   obtain ⟨t255, A90, H⟩ := H
   replace H : (some t255) = some r := H
   have A9 := Aside0.mk A90
   clear A90
   obtain rfl := Option.some.inj H
   go_enter Tryd.func49, Tryd.ntmps49
   go_wp2_with (first | ((with_reducible refine gate_dst (N := 1) rfl ?_); refine bx_ 1 #[.int .i64 a0_0, .int .i64 a0_1, .int .i64 a0_2, .int .i64 a0_3, .string a0_4, .string a0_5, .slice A0_6 l0_6.length c0_6] 32 ?_; intro gb253 hg w10 hbox hb; have BK253 := Aside0.mk (hbox); have GW253 := gw_ hg; have GE253 := gw_ hg; replace HB := bs_ hb; clear hb hbox hg; obtain ⟨hcz11_0, hcz11_1, hcz11_2, hcz11_3, hcz11_4, hcz11_5, hcz11_6, hfz11_0, hfz11_1, hfz11_2, hfz11_3, hfz11_4, hfz11_5, hfz11_6⟩ := b7_ BK253) | ((with_reducible refine gate_callee (f := 26) rfl ?_); refine gsL_ (some 15) Tryd.func26 #[.agg #[.int .i64 a0_2, .int .i64 a0_3, .string a0_4]] ?_; (with_reducible refine (impl_ValueText.calls a0_2 a0_3 a0_4 t255 _ A9.out).mono ?_); rintro e w12 ⟨rfl, hb⟩; refine ⟨_, rfl, ?_⟩; replace BK253 := bkb_ BK253 hb; replace HB := bs_ hb; (try clear hb); (try clear hb2); (try clear hk); (try clear hi)))
   go_ret
   exact ⟨er_, bb_⟩
  ·rw [if_neg c8] at H
   have c8b0 : (a0_0 == 1) = false := beq_eq_false_iff_ne.mpr c8
   have c8b1 : (a0_0 != 1) = true := bne_iff_ne.mpr c8
   by_cases c13 : a0_0 = 2
   ·rw [if_pos c13] at H
    have c13b0 : (a0_0 == 2) = true := beq_iff_eq.mpr c13
    have c13b1 : (a0_0 != 2) = false := bne_eq_false_iff_eq.mpr c13
    clear c13
    by_cases c14 : 0 < (l0_6.length : Int)
    ·rw [if_pos c14] at H
     have c14b0 : decide (0 < (l0_6.length : Int)) = true := decide_eq_true c14
     have c14b1 : decide (0 < l0_6.length) = true := decide_eq_true (by omega)
     clear c14
     replace H := Option.bind_eq_some_iff.mp H
     obtain ⟨t257, A150, H⟩ := H
     replace H : (if 1 + t257.size ≤ 9223372036854775807 then (if ((⟨#[40]⟩ : ByteArray) ++ t257).size + 1 ≤ 9223372036854775807 then (if (((⟨#[40]⟩ : ByteArray) ++ t257) ++ (⟨#[32]⟩ : ByteArray)).size + a0_5.size ≤ 9223372036854775807 then (if ((((⟨#[40]⟩ : ByteArray) ++ t257) ++ (⟨#[32]⟩ : ByteArray)) ++ a0_5).size + 1 ≤ 9223372036854775807 then (if 1 < (l0_6.length : Int) then ((impl_expText.f k ((rd_T32 l0_6 1).f0) ((rd_T32 l0_6 1).f1) ((rd_T32 l0_6 1).f2.f0) ((rd_T32 l0_6 1).f2.f1) ((rd_T32 l0_6 1).f2.f2) ((rd_T32 l0_6 1).f3) ((rd_T32 l0_6 1).f4)).bind fun t259 => (if (((((⟨#[40]⟩ : ByteArray) ++ t257) ++ (⟨#[32]⟩ : ByteArray)) ++ a0_5) ++ (⟨#[32]⟩ : ByteArray)).size + t259.size ≤ 9223372036854775807 then (if ((((((⟨#[40]⟩ : ByteArray) ++ t257) ++ (⟨#[32]⟩ : ByteArray)) ++ a0_5) ++ (⟨#[32]⟩ : ByteArray)) ++ t259).size + 1 ≤ 9223372036854775807 then (some (((((((⟨#[40]⟩ : ByteArray) ++ t257) ++ (⟨#[32]⟩ : ByteArray)) ++ a0_5) ++ (⟨#[32]⟩ : ByteArray)) ++ t259) ++ (⟨#[41]⟩ : ByteArray))) else (none)) else (none))) else (none)) else (none)) else (none)) else (none)) else (none)) = some r := H
     have A15 := Aside0.mk A150
     clear A150
     by_cases c16 : 1 + t257.size ≤ 9223372036854775807
     ·rw [if_pos c16] at H
      have c16b0 := eq_true c16
      have c16b1 : decide (1 + t257.size ≤ 9223372036854775807) = true := decide_eq_true c16
      try have c16b2 : (9223372036854775807 < 1 + t257.size) = False := eq_false (Nat.not_lt.2 c16)
      by_cases c17 : ((⟨#[40]⟩ : ByteArray) ++ t257).size + 1 ≤ 9223372036854775807
      ·rw [if_pos c17] at H
       have c17b0 := eq_true c17
       have c17b1 : decide (((⟨#[40]⟩ : ByteArray) ++ t257).size + 1 ≤ 9223372036854775807) = true := decide_eq_true c17
       try have c17b2 : (9223372036854775807 < ((⟨#[40]⟩ : ByteArray) ++ t257).size + 1) = False := eq_false (Nat.not_lt.2 c17)
       (try (have c17b0z := c17b0; simp only [ByteArray.size_append] at c17b0z))
       (try (have c17b1z := c17b1; simp only [ByteArray.size_append] at c17b1z))
       (try (have c17b2z := c17b2; simp only [ByteArray.size_append] at c17b2z))
       (try (have c17b2y : (9223372036854775807 < 1 + t257.size + 1) = False := by (apply eq_false; have hq_ := c17; simp only [ByteArray.size_append, ByteArray.size_extract] at hq_; have hl0_ : (⟨#[40]⟩ : ByteArray).size = 1 := rfl; omega)))
       by_cases c18 : (((⟨#[40]⟩ : ByteArray) ++ t257) ++ (⟨#[32]⟩ : ByteArray)).size + a0_5.size ≤ 9223372036854775807
       ·rw [if_pos c18] at H
        have c18b0 := eq_true c18
        have c18b1 : decide ((((⟨#[40]⟩ : ByteArray) ++ t257) ++ (⟨#[32]⟩ : ByteArray)).size + a0_5.size ≤ 9223372036854775807) = true := decide_eq_true c18
        try have c18b2 : (9223372036854775807 < (((⟨#[40]⟩ : ByteArray) ++ t257) ++ (⟨#[32]⟩ : ByteArray)).size + a0_5.size) = False := eq_false (Nat.not_lt.2 c18)
        (try (have c18b0z := c18b0; simp only [ByteArray.size_append] at c18b0z))
        (try (have c18b1z := c18b1; simp only [ByteArray.size_append] at c18b1z))
        (try (have c18b2z := c18b2; simp only [ByteArray.size_append] at c18b2z))
        (try (have c18b2y : (9223372036854775807 < 1 + t257.size + 1 + a0_5.size) = False := by (apply eq_false; have hq_ := c18; simp only [ByteArray.size_append, ByteArray.size_extract] at hq_; have hl0_ : (⟨#[40]⟩ : ByteArray).size = 1 := rfl; have hl1_ : (⟨#[32]⟩ : ByteArray).size = 1 := rfl; omega)))
        by_cases c19 : ((((⟨#[40]⟩ : ByteArray) ++ t257) ++ (⟨#[32]⟩ : ByteArray)) ++ a0_5).size + 1 ≤ 9223372036854775807
        ·rw [if_pos c19] at H
         have c19b0 := eq_true c19
         have c19b1 : decide (((((⟨#[40]⟩ : ByteArray) ++ t257) ++ (⟨#[32]⟩ : ByteArray)) ++ a0_5).size + 1 ≤ 9223372036854775807) = true := decide_eq_true c19
         try have c19b2 : (9223372036854775807 < ((((⟨#[40]⟩ : ByteArray) ++ t257) ++ (⟨#[32]⟩ : ByteArray)) ++ a0_5).size + 1) = False := eq_false (Nat.not_lt.2 c19)
         (try (have c19b0z := c19b0; simp only [ByteArray.size_append] at c19b0z))
         (try (have c19b1z := c19b1; simp only [ByteArray.size_append] at c19b1z))
         (try (have c19b2z := c19b2; simp only [ByteArray.size_append] at c19b2z))
         (try (have c19b2y : (9223372036854775807 < 1 + t257.size + 1 + a0_5.size + 1) = False := by (apply eq_false; have hq_ := c19; simp only [ByteArray.size_append, ByteArray.size_extract] at hq_; have hl0_ : (⟨#[40]⟩ : ByteArray).size = 1 := rfl; have hl1_ : (⟨#[32]⟩ : ByteArray).size = 1 := rfl; omega)))
         by_cases c20 : 1 < (l0_6.length : Int)
         ·rw [if_pos c20] at H
          have c20b0 : decide (1 < (l0_6.length : Int)) = true := decide_eq_true c20
          have c20b1 : decide (1 < l0_6.length) = true := decide_eq_true (by omega)
          clear c20
          replace H := Option.bind_eq_some_iff.mp H
          obtain ⟨t259, A210, H⟩ := H
          replace H : (if (((((⟨#[40]⟩ : ByteArray) ++ t257) ++ (⟨#[32]⟩ : ByteArray)) ++ a0_5) ++ (⟨#[32]⟩ : ByteArray)).size + t259.size ≤ 9223372036854775807 then (if ((((((⟨#[40]⟩ : ByteArray) ++ t257) ++ (⟨#[32]⟩ : ByteArray)) ++ a0_5) ++ (⟨#[32]⟩ : ByteArray)) ++ t259).size + 1 ≤ 9223372036854775807 then (some (((((((⟨#[40]⟩ : ByteArray) ++ t257) ++ (⟨#[32]⟩ : ByteArray)) ++ a0_5) ++ (⟨#[32]⟩ : ByteArray)) ++ t259) ++ (⟨#[41]⟩ : ByteArray))) else (none)) else (none)) = some r := H
          have A21 := Aside0.mk A210
          clear A210
          by_cases c22 : (((((⟨#[40]⟩ : ByteArray) ++ t257) ++ (⟨#[32]⟩ : ByteArray)) ++ a0_5) ++ (⟨#[32]⟩ : ByteArray)).size + t259.size ≤ 9223372036854775807
          ·rw [if_pos c22] at H
           have c22b0 := eq_true c22
           have c22b1 : decide ((((((⟨#[40]⟩ : ByteArray) ++ t257) ++ (⟨#[32]⟩ : ByteArray)) ++ a0_5) ++ (⟨#[32]⟩ : ByteArray)).size + t259.size ≤ 9223372036854775807) = true := decide_eq_true c22
           try have c22b2 : (9223372036854775807 < (((((⟨#[40]⟩ : ByteArray) ++ t257) ++ (⟨#[32]⟩ : ByteArray)) ++ a0_5) ++ (⟨#[32]⟩ : ByteArray)).size + t259.size) = False := eq_false (Nat.not_lt.2 c22)
           (try (have c22b0z := c22b0; simp only [ByteArray.size_append] at c22b0z))
           (try (have c22b1z := c22b1; simp only [ByteArray.size_append] at c22b1z))
           (try (have c22b2z := c22b2; simp only [ByteArray.size_append] at c22b2z))
           (try (have c22b2y : (9223372036854775807 < 1 + t257.size + 1 + a0_5.size + 1 + t259.size) = False := by (apply eq_false; have hq_ := c22; simp only [ByteArray.size_append, ByteArray.size_extract] at hq_; have hl0_ : (⟨#[40]⟩ : ByteArray).size = 1 := rfl; have hl1_ : (⟨#[32]⟩ : ByteArray).size = 1 := rfl; omega)))
           by_cases c23 : ((((((⟨#[40]⟩ : ByteArray) ++ t257) ++ (⟨#[32]⟩ : ByteArray)) ++ a0_5) ++ (⟨#[32]⟩ : ByteArray)) ++ t259).size + 1 ≤ 9223372036854775807
           ·rw [if_pos c23] at H
            have c23b0 := eq_true c23
            have c23b1 : decide (((((((⟨#[40]⟩ : ByteArray) ++ t257) ++ (⟨#[32]⟩ : ByteArray)) ++ a0_5) ++ (⟨#[32]⟩ : ByteArray)) ++ t259).size + 1 ≤ 9223372036854775807) = true := decide_eq_true c23
            try have c23b2 : (9223372036854775807 < ((((((⟨#[40]⟩ : ByteArray) ++ t257) ++ (⟨#[32]⟩ : ByteArray)) ++ a0_5) ++ (⟨#[32]⟩ : ByteArray)) ++ t259).size + 1) = False := eq_false (Nat.not_lt.2 c23)
            (try (have c23b0z := c23b0; simp only [ByteArray.size_append] at c23b0z))
            (try (have c23b1z := c23b1; simp only [ByteArray.size_append] at c23b1z))
            (try (have c23b2z := c23b2; simp only [ByteArray.size_append] at c23b2z))
            (try (have c23b2y : (9223372036854775807 < 1 + t257.size + 1 + a0_5.size + 1 + t259.size + 1) = False := by (apply eq_false; have hq_ := c23; simp only [ByteArray.size_append, ByteArray.size_extract] at hq_; have hl0_ : (⟨#[40]⟩ : ByteArray).size = 1 := rfl; have hl1_ : (⟨#[32]⟩ : ByteArray).size = 1 := rfl; omega)))
            obtain rfl := Option.some.inj H
            go_enter Tryd.func49, Tryd.ntmps49
            try go_wp2_with (first | ((with_reducible refine gate_dst (N := 1) rfl ?_); refine bx_ 1 #[.int .i64 a0_0, .int .i64 a0_1, .int .i64 a0_2, .int .i64 a0_3, .string a0_4, .string a0_5, .slice A0_6 l0_6.length c0_6] 32 ?_; intro gb253 hg w24 hbox hb; have BK253 := Aside0.mk (hbox); have GW253 := gw_ hg; have GE253 := gw_ hg; replace HB := bs_ hb; clear hb hbox hg; obtain ⟨hcz25_0, hcz25_1, hcz25_2, hcz25_3, hcz25_4, hcz25_5, hcz25_6, hfz25_0, hfz25_1, hfz25_2, hfz25_3, hfz25_4, hfz25_5, hfz25_6⟩ := b7_ BK253))
            replace BK253 := Aside0.mk (blk_drew BK253.out)
            replace HB := Aside0.mk (below_drew1 HB.out)
            have p256 : 0 ≤ (0 : Int) := (by omega)
            have q256 : 0 < (l0_6.length : Int) := of_decide_eq_true (by first | (with_reducible assumption) | assumption)
            obtain ⟨ad256, A256_6, c256_6, e256, hx256_0, hx256_1, hx256_2, hx256_3, hx256_4, hx256_5, hx256_6, hl256_6, hi256_6⟩ := at_T32 HR0_6.out 0 p256 q256
            have hw256_6 := hx256_6
            (try rw [show ((0 : Int)).toNat = 0 from rfl] at hw256_6)
            (try rw [show 0 * 7 = 0 from rfl] at hw256_6)
            (try rw [Addr.add_zero'] at hw256_6)
            have hw256_5 := hx256_5
            (try rw [show ((0 : Int)).toNat = 0 from rfl] at hw256_5)
            (try rw [show 0 * 7 = 0 from rfl] at hw256_5)
            (try rw [Addr.add_zero'] at hw256_5)
            have hw256_4 := hx256_4
            (try rw [show ((0 : Int)).toNat = 0 from rfl] at hw256_4)
            (try rw [show 0 * 7 = 0 from rfl] at hw256_4)
            (try rw [Addr.add_zero'] at hw256_4)
            have hw256_3 := hx256_3
            (try rw [show ((0 : Int)).toNat = 0 from rfl] at hw256_3)
            (try rw [show 0 * 7 = 0 from rfl] at hw256_3)
            (try rw [Addr.add_zero'] at hw256_3)
            have hw256_2 := hx256_2
            (try rw [show ((0 : Int)).toNat = 0 from rfl] at hw256_2)
            (try rw [show 0 * 7 = 0 from rfl] at hw256_2)
            (try rw [Addr.add_zero'] at hw256_2)
            have hw256_1 := hx256_1
            (try rw [show ((0 : Int)).toNat = 0 from rfl] at hw256_1)
            (try rw [show 0 * 7 = 0 from rfl] at hw256_1)
            (try rw [Addr.add_zero'] at hw256_1)
            have hw256_0 := hx256_0
            (try rw [show ((0 : Int)).toNat = 0 from rfl] at hw256_0)
            (try rw [show 0 * 7 = 0 from rfl] at hw256_0)
            (try rw [Addr.add_zero'] at hw256_0)
            cases e256
            have qi256 : (0 < l0_6.length) = True := eq_true (by omega)
            (try rw [show ((0 : Int)).toNat = 0 from rfl] at hx256_0)
            (try rw [show 0 * 7 = 0 from rfl] at hx256_0)
            (try rw [Addr.add_zero'] at hx256_0)
            (try rw [show ((0 : Int)).toNat = 0 from rfl] at hx256_1)
            (try rw [show 0 * 7 = 0 from rfl] at hx256_1)
            (try rw [Addr.add_zero'] at hx256_1)
            (try rw [show ((0 : Int)).toNat = 0 from rfl] at hx256_2)
            (try rw [show 0 * 7 = 0 from rfl] at hx256_2)
            (try rw [Addr.add_zero'] at hx256_2)
            (try rw [show ((0 : Int)).toNat = 0 from rfl] at hx256_3)
            (try rw [show 0 * 7 = 0 from rfl] at hx256_3)
            (try rw [Addr.add_zero'] at hx256_3)
            (try rw [show ((0 : Int)).toNat = 0 from rfl] at hx256_4)
            (try rw [show 0 * 7 = 0 from rfl] at hx256_4)
            (try rw [Addr.add_zero'] at hx256_4)
            (try rw [show ((0 : Int)).toNat = 0 from rfl] at hx256_5)
            (try rw [show 0 * 7 = 0 from rfl] at hx256_5)
            (try rw [Addr.add_zero'] at hx256_5)
            (try rw [show ((0 : Int)).toNat = 0 from rfl] at hx256_6)
            (try rw [show 0 * 7 = 0 from rfl] at hx256_6)
            (try rw [Addr.add_zero'] at hx256_6)
            replace hx256_0 := hb_ HB hx256_0
            replace hx256_1 := hb_ HB hx256_1
            replace hx256_2 := hb_ HB hx256_2
            replace hx256_3 := hb_ HB hx256_3
            replace hx256_4 := hb_ HB hx256_4
            replace hx256_5 := hb_ HB hx256_5
            replace hx256_6 := hb_ HB hx256_6
            have HR256_6 := Aside0.mk hi256_6
            have HC256_6 := Aside0.mk hl256_6
            clear hi256_6 hl256_6
            replace p256 := eq_true p256
            replace q256 := eq_true q256
            have p258 : 0 ≤ (1 : Int) := (by omega)
            have q258 : 1 < (l0_6.length : Int) := of_decide_eq_true (by first | (with_reducible assumption) | assumption)
            obtain ⟨ad258, A258_6, c258_6, e258, hx258_0, hx258_1, hx258_2, hx258_3, hx258_4, hx258_5, hx258_6, hl258_6, hi258_6⟩ := at_T32 HR0_6.out 1 p258 q258
            have hw258_6 := hx258_6
            (try rw [show ((1 : Int)).toNat = 1 from rfl] at hw258_6)
            (try rw [show 1 * 7 = 7 from rfl] at hw258_6)
            (try simp only [Nat.reduceMul, Nat.reduceEqDiff, Go.Addr.add, ↓reduceIte] at hw258_6)
            have hw258_5 := hx258_5
            (try rw [show ((1 : Int)).toNat = 1 from rfl] at hw258_5)
            (try rw [show 1 * 7 = 7 from rfl] at hw258_5)
            (try simp only [Nat.reduceMul, Nat.reduceEqDiff, Go.Addr.add, ↓reduceIte] at hw258_5)
            have hw258_4 := hx258_4
            (try rw [show ((1 : Int)).toNat = 1 from rfl] at hw258_4)
            (try rw [show 1 * 7 = 7 from rfl] at hw258_4)
            (try simp only [Nat.reduceMul, Nat.reduceEqDiff, Go.Addr.add, ↓reduceIte] at hw258_4)
            have hw258_3 := hx258_3
            (try rw [show ((1 : Int)).toNat = 1 from rfl] at hw258_3)
            (try rw [show 1 * 7 = 7 from rfl] at hw258_3)
            (try simp only [Nat.reduceMul, Nat.reduceEqDiff, Go.Addr.add, ↓reduceIte] at hw258_3)
            have hw258_2 := hx258_2
            (try rw [show ((1 : Int)).toNat = 1 from rfl] at hw258_2)
            (try rw [show 1 * 7 = 7 from rfl] at hw258_2)
            (try simp only [Nat.reduceMul, Nat.reduceEqDiff, Go.Addr.add, ↓reduceIte] at hw258_2)
            have hw258_1 := hx258_1
            (try rw [show ((1 : Int)).toNat = 1 from rfl] at hw258_1)
            (try rw [show 1 * 7 = 7 from rfl] at hw258_1)
            (try simp only [Nat.reduceMul, Nat.reduceEqDiff, Go.Addr.add, ↓reduceIte] at hw258_1)
            have hw258_0 := hx258_0
            (try rw [show ((1 : Int)).toNat = 1 from rfl] at hw258_0)
            (try rw [show 1 * 7 = 7 from rfl] at hw258_0)
            (try simp only [Nat.reduceMul, Nat.reduceEqDiff, Go.Addr.add, ↓reduceIte] at hw258_0)
            obtain rfl : ad256 = ad258 := (by injection e258)
            (try simp only [show (1 : Int).toNat = 1 from rfl, Nat.reduceMul, Nat.reduceEqDiff, Go.Addr.add, ↓reduceIte] at hx258_0)
            (try simp only [show (1 : Int).toNat = 1 from rfl, Nat.reduceMul, Nat.reduceEqDiff, Go.Addr.add, ↓reduceIte] at hx258_1)
            (try simp only [show (1 : Int).toNat = 1 from rfl, Nat.reduceMul, Nat.reduceEqDiff, Go.Addr.add, ↓reduceIte] at hx258_2)
            (try simp only [show (1 : Int).toNat = 1 from rfl, Nat.reduceMul, Nat.reduceEqDiff, Go.Addr.add, ↓reduceIte] at hx258_3)
            (try simp only [show (1 : Int).toNat = 1 from rfl, Nat.reduceMul, Nat.reduceEqDiff, Go.Addr.add, ↓reduceIte] at hx258_4)
            (try simp only [show (1 : Int).toNat = 1 from rfl, Nat.reduceMul, Nat.reduceEqDiff, Go.Addr.add, ↓reduceIte] at hx258_5)
            (try simp only [show (1 : Int).toNat = 1 from rfl, Nat.reduceMul, Nat.reduceEqDiff, Go.Addr.add, ↓reduceIte] at hx258_6)
            have qi258 : (1 < l0_6.length) = True := eq_true (by omega)
            (try rw [show ((1 : Int)).toNat = 1 from rfl] at hx258_0)
            (try rw [show 1 * 7 = 7 from rfl] at hx258_0)
            (try rw [show ((1 : Int)).toNat = 1 from rfl] at hx258_1)
            (try rw [show 1 * 7 = 7 from rfl] at hx258_1)
            (try rw [show ((1 : Int)).toNat = 1 from rfl] at hx258_2)
            (try rw [show 1 * 7 = 7 from rfl] at hx258_2)
            (try rw [show ((1 : Int)).toNat = 1 from rfl] at hx258_3)
            (try rw [show 1 * 7 = 7 from rfl] at hx258_3)
            (try rw [show ((1 : Int)).toNat = 1 from rfl] at hx258_4)
            (try rw [show 1 * 7 = 7 from rfl] at hx258_4)
            (try rw [show ((1 : Int)).toNat = 1 from rfl] at hx258_5)
            (try rw [show 1 * 7 = 7 from rfl] at hx258_5)
            (try rw [show ((1 : Int)).toNat = 1 from rfl] at hx258_6)
            (try rw [show 1 * 7 = 7 from rfl] at hx258_6)
            replace hx258_0 := hb_ HB hx258_0
            replace hx258_1 := hb_ HB hx258_1
            replace hx258_2 := hb_ HB hx258_2
            replace hx258_3 := hb_ HB hx258_3
            replace hx258_4 := hb_ HB hx258_4
            replace hx258_5 := hb_ HB hx258_5
            replace hx258_6 := hb_ HB hx258_6
            have HR258_6 := Aside0.mk hi258_6
            have HC258_6 := Aside0.mk hl258_6
            clear hi258_6 hl258_6
            replace p258 := eq_true p258
            replace q258 := eq_true q258
            refine start_ (n := 19) (S := fun w' => w'.cell? ⟨gb253, 0, none⟩ = some (.int .i64 a0_0) ∧ w'.cell? ⟨gb253, 1, none⟩ = some (.int .i64 a0_1) ∧ w'.cell? ⟨gb253, 2, none⟩ = some (.int .i64 a0_2) ∧ w'.cell? ⟨gb253, 3, none⟩ = some (.int .i64 a0_3) ∧ w'.cell? ⟨gb253, 4, none⟩ = some (.string a0_4) ∧ w'.cell? ⟨gb253, 5, none⟩ = some (.string a0_5) ∧ w'.cell? ⟨gb253, 6, none⟩ = some (.slice (some ad256) l0_6.length c0_6) ∧ w'.cell? ad256 = some (.int .i64 ((rd_T32 l0_6 0).f0)) ∧ w'.cell? ⟨ad256.block, ad256.off + 1, none⟩ = some (.int .i64 ((rd_T32 l0_6 0).f1)) ∧ w'.cell? ⟨ad256.block, ad256.off + 2, none⟩ = some (.int .i64 ((rd_T32 l0_6 0).f2.f0)) ∧ w'.cell? ⟨ad256.block, ad256.off + 3, none⟩ = some (.int .i64 ((rd_T32 l0_6 0).f2.f1)) ∧ w'.cell? ⟨ad256.block, ad256.off + 4, none⟩ = some (.string ((rd_T32 l0_6 0).f2.f2)) ∧ w'.cell? ⟨ad256.block, ad256.off + 5, none⟩ = some (.string ((rd_T32 l0_6 0).f3)) ∧ w'.cell? ⟨ad256.block, ad256.off + 6, none⟩ = some (.slice A256_6 ((rd_T32 l0_6 0).f4).length c256_6) ∧ w'.cell? ⟨ad256.block, ad256.off + 7, none⟩ = some (.int .i64 ((rd_T32 l0_6 1).f0)) ∧ w'.cell? ⟨ad256.block, ad256.off + 7 + 1, none⟩ = some (.int .i64 ((rd_T32 l0_6 1).f1)) ∧ w'.cell? ⟨ad256.block, ad256.off + 7 + 2, none⟩ = some (.int .i64 ((rd_T32 l0_6 1).f2.f0)) ∧ w'.cell? ⟨ad256.block, ad256.off + 7 + 3, none⟩ = some (.int .i64 ((rd_T32 l0_6 1).f2.f1)) ∧ w'.cell? ⟨ad256.block, ad256.off + 7 + 4, none⟩ = some (.string ((rd_T32 l0_6 1).f2.f2)) ∧ w'.cell? ⟨ad256.block, ad256.off + 7 + 5, none⟩ = some (.string ((rd_T32 l0_6 1).f3)) ∧ w'.cell? ⟨ad256.block, ad256.off + 7 + 6, none⟩ = some (.slice A258_6 ((rd_T32 l0_6 1).f4).length c258_6)) (ds := []) (tf 0 19) (by kernel_rfl) rfl rfl ⟨bc_ BK253 0, bc_ BK253 1, bc_ BK253 2, bc_ BK253 3, bc_ BK253 4, bc_ BK253 5, bc_ BK253 6, (hb_ HB hw256_0), (hb_ HB hw256_1), (hb_ HB hw256_2), (hb_ HB hw256_3), (hb_ HB hw256_4), (hb_ HB hw256_5), (hb_ HB hw256_6), (hb_ HB hw258_0), (hb_ HB hw258_1), (hb_ HB hw258_2), (hb_ HB hw258_3), (hb_ HB hw258_4), (hb_ HB hw258_5), (hb_ HB hw258_6)⟩ (fun hHeld => ?_); refine with_tabW impl_expText.tab7 impl_expText.bits7 (fun HT_ HW_ => ?_)
            generalize w24.drew = w26 at BK253 HB HR256_6 HR258_6 hx256_0 hx256_1 hx256_2 hx256_3 hx256_4 hx256_5 hx256_6 hx258_0 hx258_1 hx258_2 hx258_3 hx258_4 hx258_5 hx258_6 hHeld ⊢
            refine pl_ ?_
            refine plx_ 7 #[true, false, false, false, false, false, false, true, false, false, false, false, false, false, false, false, false, false, false] ?_
            refine plx_ 11 #[true, false, false, false, false, false, false, true, false, false, false, true, false, false, false, false, false, false, false] ?_
            refine tlx_ 1 #[true, true, false, false, false, false, false, true, false, false, false, true, false, false, false, false, false, false, false] ?_
            refine plx_ 2 #[true, true, true, false, false, false, false, true, false, false, false, true, false, false, false, false, false, false, false] ?_
            refine tlx_ 3 #[true, true, true, true, false, false, false, true, false, false, false, true, false, false, false, false, false, false, false] ?_
            refine tlx_ 8 #[true, true, true, true, false, false, false, true, true, false, false, true, false, false, false, false, false, false, false] ?_
            refine tlx_ 12 #[true, true, true, true, false, false, false, true, true, false, false, true, true, false, false, false, false, false, false] ?_
            refine plx_ 13 #[true, true, true, true, false, false, false, true, true, false, false, true, true, true, false, false, false, false, false] ?_
            refine tlx_ 14 #[true, true, true, true, false, false, false, true, true, false, false, true, true, true, true, false, false, false, false] ?_
            refine one_ (i := 4) (N := some 22) #[true, true, true, true, true, false, false, true, true, false, false, true, true, true, true, false, false, false, false] rfl rfl (one_of HT_.out (by kernel_rfl)) (by decide) (fun K hK => ?_)
            refine gs_ Tryd.func49 #[.agg #[.int .i64 ((rd_T32 l0_6 0).f0), .int .i64 ((rd_T32 l0_6 0).f1), .int .i64 ((rd_T32 l0_6 0).f2.f0), .int .i64 ((rd_T32 l0_6 0).f2.f1), .string ((rd_T32 l0_6 0).f2.f2), .string ((rd_T32 l0_6 0).f3), .slice A256_6 ((rd_T32 l0_6 0).f4).length c256_6]] ?_
            with_reducible refine (ih k (by omega) ((rd_T32 l0_6 0).f0) ((rd_T32 l0_6 0).f1) ((rd_T32 l0_6 0).f2.f0) ((rd_T32 l0_6 0).f2.f1) ((rd_T32 l0_6 0).f2.f2) ((rd_T32 l0_6 0).f3) _ _ ((rd_T32 l0_6 0).f4) t257 _ ?side1 ?side2 A15.out).mono ?_
            (case side1 => exact ck_ (Kd.C_below HR256_6.out HB.out))
            (case side2 => exact HC256_6.out)
            rintro e w27 ⟨rfl, hb⟩
            refine ⟨_, rfl, ?_⟩
            replace BK253 := bkb_ BK253 hb
            replace HB := bs_ hb
            (try clear hb)
            (try clear hb2)
            (try clear hk)
            (try clear hi)
            refine hK.out _ _ ⟨bc_ BK253 0, bc_ BK253 1, bc_ BK253 2, bc_ BK253 3, bc_ BK253 4, bc_ BK253 5, bc_ BK253 6, (hb_ HB hw256_0), (hb_ HB hw256_1), (hb_ HB hw256_2), (hb_ HB hw256_3), (hb_ HB hw256_4), (hb_ HB hw256_5), (hb_ HB hw256_6), (hb_ HB hw258_0), (hb_ HB hw258_1), (hb_ HB hw258_2), (hb_ HB hw258_3), (hb_ HB hw258_4), (hb_ HB hw258_5), (hb_ HB hw258_6)⟩ (fun hHeld => ?_)
            clear hK K
            refine nm_ ?_
            refine plx_ 5 #[true, true, true, true, true, true, false, true, true, false, false, true, true, true, true, false, false, false, false] ?_
            refine plx_ 6 #[true, true, true, true, true, true, true, true, true, false, false, true, true, true, true, false, false, false, false] ?_
            refine plx_ 9 #[true, true, true, true, true, true, true, true, true, true, false, true, true, true, true, false, false, false, false] ?_
            refine plx_ 10 (tf 15 4) ?_
            refine one_ (i := 15) (N := some 33) (tf 16 3) rfl rfl (one_of HT_.out (by kernel_rfl)) (by decide) (fun K hK => ?_)
            refine gs_ Tryd.func49 #[.agg #[.int .i64 ((rd_T32 l0_6 1).f0), .int .i64 ((rd_T32 l0_6 1).f1), .int .i64 ((rd_T32 l0_6 1).f2.f0), .int .i64 ((rd_T32 l0_6 1).f2.f1), .string ((rd_T32 l0_6 1).f2.f2), .string ((rd_T32 l0_6 1).f3), .slice A258_6 ((rd_T32 l0_6 1).f4).length c258_6]] ?_
            with_reducible refine (ih k (by omega) ((rd_T32 l0_6 1).f0) ((rd_T32 l0_6 1).f1) ((rd_T32 l0_6 1).f2.f0) ((rd_T32 l0_6 1).f2.f1) ((rd_T32 l0_6 1).f2.f2) ((rd_T32 l0_6 1).f3) _ _ ((rd_T32 l0_6 1).f4) t259 _ ?side1 ?side2 A21.out).mono ?_
            (case side1 => exact ck_ (Kd.C_below HR258_6.out HB.out))
            (case side2 => exact HC258_6.out)
            rintro e w28 ⟨rfl, hb⟩
            refine ⟨_, rfl, ?_⟩
            replace BK253 := bkb_ BK253 hb
            replace HB := bs_ hb
            (try clear hb)
            (try clear hb2)
            (try clear hk)
            (try clear hi)
            refine hK.out _ _ ⟨bc_ BK253 0, bc_ BK253 1, bc_ BK253 2, bc_ BK253 3, bc_ BK253 4, bc_ BK253 5, bc_ BK253 6, (hb_ HB hw256_0), (hb_ HB hw256_1), (hb_ HB hw256_2), (hb_ HB hw256_3), (hb_ HB hw256_4), (hb_ HB hw256_5), (hb_ HB hw256_6), (hb_ HB hw258_0), (hb_ HB hw258_1), (hb_ HB hw258_2), (hb_ HB hw258_3), (hb_ HB hw258_4), (hb_ HB hw258_5), (hb_ HB hw258_6)⟩ (fun hHeld => ?_)
            clear hK K
            refine nm_ ?_
            refine plx_ 16 (tf 17 2) ?_
            iterate 2 (refine pl_ ?_)
            refine done_ (done_of HT_.out (by kernel_rfl)) ?_
            try go_wp2
            go_ret
            exact ⟨er_, bb_⟩
           ·rw [if_neg c23] at H
            exact absurd H (by simp)
          ·rw [if_neg c22] at H
           exact absurd H (by simp)
         ·rw [if_neg c20] at H
          exact absurd H (by simp)
        ·rw [if_neg c19] at H
         exact absurd H (by simp)
       ·rw [if_neg c18] at H
        exact absurd H (by simp)
      ·rw [if_neg c17] at H
       exact absurd H (by simp)
     ·rw [if_neg c16] at H
      exact absurd H (by simp)
    ·rw [if_neg c14] at H
     exact absurd H (by simp)
   ·rw [if_neg c13] at H
    have c13b0 : (a0_0 == 2) = false := beq_eq_false_iff_ne.mpr c13
    have c13b1 : (a0_0 != 2) = true := bne_iff_ne.mpr c13
    by_cases c29 : a0_0 = 3
    ·rw [if_pos c29] at H
     have c29b0 : (a0_0 == 3) = true := beq_iff_eq.mpr c29
     have c29b1 : (a0_0 != 3) = false := bne_eq_false_iff_eq.mpr c29
     clear c29
     by_cases c30 : 0 < (l0_6.length : Int)
     ·rw [if_pos c30] at H
      have c30b0 : decide (0 < (l0_6.length : Int)) = true := decide_eq_true c30
      have c30b1 : decide (0 < l0_6.length) = true := decide_eq_true (by omega)
      clear c30
      replace H := Option.bind_eq_some_iff.mp H
      obtain ⟨t261, A310, H⟩ := H
      replace H : (if 4 + t261.size ≤ 9223372036854775807 then (if ((⟨#[110, 111, 116, 40]⟩ : ByteArray) ++ t261).size + 1 ≤ 9223372036854775807 then (some (((⟨#[110, 111, 116, 40]⟩ : ByteArray) ++ t261) ++ (⟨#[41]⟩ : ByteArray))) else (none)) else (none)) = some r := H
      have A31 := Aside0.mk A310
      clear A310
      by_cases c32 : 4 + t261.size ≤ 9223372036854775807
      ·rw [if_pos c32] at H
       have c32b0 := eq_true c32
       have c32b1 : decide (4 + t261.size ≤ 9223372036854775807) = true := decide_eq_true c32
       try have c32b2 : (9223372036854775807 < 4 + t261.size) = False := eq_false (Nat.not_lt.2 c32)
       by_cases c33 : ((⟨#[110, 111, 116, 40]⟩ : ByteArray) ++ t261).size + 1 ≤ 9223372036854775807
       ·rw [if_pos c33] at H
        have c33b0 := eq_true c33
        have c33b1 : decide (((⟨#[110, 111, 116, 40]⟩ : ByteArray) ++ t261).size + 1 ≤ 9223372036854775807) = true := decide_eq_true c33
        try have c33b2 : (9223372036854775807 < ((⟨#[110, 111, 116, 40]⟩ : ByteArray) ++ t261).size + 1) = False := eq_false (Nat.not_lt.2 c33)
        (try (have c33b0z := c33b0; simp only [ByteArray.size_append] at c33b0z))
        (try (have c33b1z := c33b1; simp only [ByteArray.size_append] at c33b1z))
        (try (have c33b2z := c33b2; simp only [ByteArray.size_append] at c33b2z))
        (try (have c33b2y : (9223372036854775807 < 4 + t261.size + 1) = False := by (apply eq_false; have hq_ := c33; simp only [ByteArray.size_append, ByteArray.size_extract] at hq_; have hl0_ : (⟨#[110, 111, 116, 40]⟩ : ByteArray).size = 4 := rfl; omega)))
        obtain rfl := Option.some.inj H
        go_enter Tryd.func49, Tryd.ntmps49
        go_wp2_with (first | ((with_reducible refine gate_dst (N := 1) rfl ?_); refine bx_ 1 #[.int .i64 a0_0, .int .i64 a0_1, .int .i64 a0_2, .int .i64 a0_3, .string a0_4, .string a0_5, .slice A0_6 l0_6.length c0_6] 32 ?_; intro gb253 hg w34 hbox hb; have BK253 := Aside0.mk (hbox); have GW253 := gw_ hg; have GE253 := gw_ hg; replace HB := bs_ hb; clear hb hbox hg; obtain ⟨hcz35_0, hcz35_1, hcz35_2, hcz35_3, hcz35_4, hcz35_5, hcz35_6, hfz35_0, hfz35_1, hfz35_2, hfz35_3, hfz35_4, hfz35_5, hfz35_6⟩ := b7_ BK253; have p260 : 0 ≤ (0 : Int) := (by omega); have q260 : 0 < (l0_6.length : Int) := of_decide_eq_true (by first | (with_reducible assumption) | assumption); obtain ⟨ad260, A260_6, c260_6, e260, hx260_0, hx260_1, hx260_2, hx260_3, hx260_4, hx260_5, hx260_6, hl260_6, hi260_6⟩ := at_T32 HR0_6.out 0 p260 q260; cases e260; have qi260 : (0 < l0_6.length) = True := eq_true (by omega); (try rw [show ((0 : Int)).toNat = 0 from rfl] at hx260_0); (try rw [show 0 * 7 = 0 from rfl] at hx260_0); (try rw [Addr.add_zero'] at hx260_0); (try rw [show ((0 : Int)).toNat = 0 from rfl] at hx260_1); (try rw [show 0 * 7 = 0 from rfl] at hx260_1); (try rw [Addr.add_zero'] at hx260_1); (try rw [show ((0 : Int)).toNat = 0 from rfl] at hx260_2); (try rw [show 0 * 7 = 0 from rfl] at hx260_2); (try rw [Addr.add_zero'] at hx260_2); (try rw [show ((0 : Int)).toNat = 0 from rfl] at hx260_3); (try rw [show 0 * 7 = 0 from rfl] at hx260_3); (try rw [Addr.add_zero'] at hx260_3); (try rw [show ((0 : Int)).toNat = 0 from rfl] at hx260_4); (try rw [show 0 * 7 = 0 from rfl] at hx260_4); (try rw [Addr.add_zero'] at hx260_4); (try rw [show ((0 : Int)).toNat = 0 from rfl] at hx260_5); (try rw [show 0 * 7 = 0 from rfl] at hx260_5); (try rw [Addr.add_zero'] at hx260_5); (try rw [show ((0 : Int)).toNat = 0 from rfl] at hx260_6); (try rw [show 0 * 7 = 0 from rfl] at hx260_6); (try rw [Addr.add_zero'] at hx260_6); replace hx260_0 := hb_ HB hx260_0; replace hx260_1 := hb_ HB hx260_1; replace hx260_2 := hb_ HB hx260_2; replace hx260_3 := hb_ HB hx260_3; replace hx260_4 := hb_ HB hx260_4; replace hx260_5 := hb_ HB hx260_5; replace hx260_6 := hb_ HB hx260_6; have HR260_6 := Aside0.mk hi260_6; have HC260_6 := Aside0.mk hl260_6; clear hi260_6 hl260_6; replace p260 := eq_true p260; replace q260 := eq_true q260) | ((with_reducible refine gate_callee (f := 49) rfl ?_); refine gsL_ (some 42) Tryd.func49 #[.agg #[.int .i64 ((rd_T32 l0_6 0).f0), .int .i64 ((rd_T32 l0_6 0).f1), .int .i64 ((rd_T32 l0_6 0).f2.f0), .int .i64 ((rd_T32 l0_6 0).f2.f1), .string ((rd_T32 l0_6 0).f2.f2), .string ((rd_T32 l0_6 0).f3), .slice A260_6 ((rd_T32 l0_6 0).f4).length c260_6]] ?_; (with_reducible refine (ih k (by omega) ((rd_T32 l0_6 0).f0) ((rd_T32 l0_6 0).f1) ((rd_T32 l0_6 0).f2.f0) ((rd_T32 l0_6 0).f2.f1) ((rd_T32 l0_6 0).f2.f2) ((rd_T32 l0_6 0).f3) _ _ ((rd_T32 l0_6 0).f4) t261 _ ?side1 ?side2 A31.out).mono ?_); (case side1 => exact ck_ (Kd.C_below HR260_6.out HB.out)); (case side2 => exact HC260_6.out); rintro e w36 ⟨rfl, hb⟩; refine ⟨_, rfl, ?_⟩; replace BK253 := bkb_ BK253 hb; replace HB := bs_ hb; (try clear hb); (try clear hb2); (try clear hk); (try clear hi)))
        go_ret
        exact ⟨er_, bb_⟩
       ·rw [if_neg c33] at H
        exact absurd H (by simp)
      ·rw [if_neg c32] at H
       exact absurd H (by simp)
     ·rw [if_neg c30] at H
      exact absurd H (by simp)
    ·rw [if_neg c29] at H
     have c29b0 : (a0_0 == 3) = false := beq_eq_false_iff_ne.mpr c29
     have c29b1 : (a0_0 != 3) = true := bne_iff_ne.mpr c29
     by_cases c37 : 0 < (l0_6.length : Int)
     ·rw [if_pos c37] at H
      have c37b0 : decide (0 < (l0_6.length : Int)) = true := decide_eq_true c37
      have c37b1 : decide (0 < l0_6.length) = true := decide_eq_true (by omega)
      clear c37
      replace H := Option.bind_eq_some_iff.mp H
      obtain ⟨t263, A380, H⟩ := H
      replace H : (if 7 + t263.size ≤ 9223372036854775807 then (if ((⟨#[105, 115, 110, 117, 108, 108, 40]⟩ : ByteArray) ++ t263).size + 1 ≤ 9223372036854775807 then (some (((⟨#[105, 115, 110, 117, 108, 108, 40]⟩ : ByteArray) ++ t263) ++ (⟨#[41]⟩ : ByteArray))) else (none)) else (none)) = some r := H
      have A38 := Aside0.mk A380
      clear A380
      by_cases c39 : 7 + t263.size ≤ 9223372036854775807
      ·rw [if_pos c39] at H
       have c39b0 := eq_true c39
       have c39b1 : decide (7 + t263.size ≤ 9223372036854775807) = true := decide_eq_true c39
       try have c39b2 : (9223372036854775807 < 7 + t263.size) = False := eq_false (Nat.not_lt.2 c39)
       by_cases c40 : ((⟨#[105, 115, 110, 117, 108, 108, 40]⟩ : ByteArray) ++ t263).size + 1 ≤ 9223372036854775807
       ·rw [if_pos c40] at H
        have c40b0 := eq_true c40
        have c40b1 : decide (((⟨#[105, 115, 110, 117, 108, 108, 40]⟩ : ByteArray) ++ t263).size + 1 ≤ 9223372036854775807) = true := decide_eq_true c40
        try have c40b2 : (9223372036854775807 < ((⟨#[105, 115, 110, 117, 108, 108, 40]⟩ : ByteArray) ++ t263).size + 1) = False := eq_false (Nat.not_lt.2 c40)
        (try (have c40b0z := c40b0; simp only [ByteArray.size_append] at c40b0z))
        (try (have c40b1z := c40b1; simp only [ByteArray.size_append] at c40b1z))
        (try (have c40b2z := c40b2; simp only [ByteArray.size_append] at c40b2z))
        (try (have c40b2y : (9223372036854775807 < 7 + t263.size + 1) = False := by (apply eq_false; have hq_ := c40; simp only [ByteArray.size_append, ByteArray.size_extract] at hq_; have hl0_ : (⟨#[105, 115, 110, 117, 108, 108, 40]⟩ : ByteArray).size = 7 := rfl; omega)))
        obtain rfl := Option.some.inj H
        go_enter Tryd.func49, Tryd.ntmps49
        go_wp2_with (first | ((with_reducible refine gate_dst (N := 1) rfl ?_); refine bx_ 1 #[.int .i64 a0_0, .int .i64 a0_1, .int .i64 a0_2, .int .i64 a0_3, .string a0_4, .string a0_5, .slice A0_6 l0_6.length c0_6] 32 ?_; intro gb253 hg w41 hbox hb; have BK253 := Aside0.mk (hbox); have GW253 := gw_ hg; have GE253 := gw_ hg; replace HB := bs_ hb; clear hb hbox hg; obtain ⟨hcz42_0, hcz42_1, hcz42_2, hcz42_3, hcz42_4, hcz42_5, hcz42_6, hfz42_0, hfz42_1, hfz42_2, hfz42_3, hfz42_4, hfz42_5, hfz42_6⟩ := b7_ BK253; have p262 : 0 ≤ (0 : Int) := (by omega); have q262 : 0 < (l0_6.length : Int) := of_decide_eq_true (by first | (with_reducible assumption) | assumption); obtain ⟨ad262, A262_6, c262_6, e262, hx262_0, hx262_1, hx262_2, hx262_3, hx262_4, hx262_5, hx262_6, hl262_6, hi262_6⟩ := at_T32 HR0_6.out 0 p262 q262; cases e262; have qi262 : (0 < l0_6.length) = True := eq_true (by omega); (try rw [show ((0 : Int)).toNat = 0 from rfl] at hx262_0); (try rw [show 0 * 7 = 0 from rfl] at hx262_0); (try rw [Addr.add_zero'] at hx262_0); (try rw [show ((0 : Int)).toNat = 0 from rfl] at hx262_1); (try rw [show 0 * 7 = 0 from rfl] at hx262_1); (try rw [Addr.add_zero'] at hx262_1); (try rw [show ((0 : Int)).toNat = 0 from rfl] at hx262_2); (try rw [show 0 * 7 = 0 from rfl] at hx262_2); (try rw [Addr.add_zero'] at hx262_2); (try rw [show ((0 : Int)).toNat = 0 from rfl] at hx262_3); (try rw [show 0 * 7 = 0 from rfl] at hx262_3); (try rw [Addr.add_zero'] at hx262_3); (try rw [show ((0 : Int)).toNat = 0 from rfl] at hx262_4); (try rw [show 0 * 7 = 0 from rfl] at hx262_4); (try rw [Addr.add_zero'] at hx262_4); (try rw [show ((0 : Int)).toNat = 0 from rfl] at hx262_5); (try rw [show 0 * 7 = 0 from rfl] at hx262_5); (try rw [Addr.add_zero'] at hx262_5); (try rw [show ((0 : Int)).toNat = 0 from rfl] at hx262_6); (try rw [show 0 * 7 = 0 from rfl] at hx262_6); (try rw [Addr.add_zero'] at hx262_6); replace hx262_0 := hb_ HB hx262_0; replace hx262_1 := hb_ HB hx262_1; replace hx262_2 := hb_ HB hx262_2; replace hx262_3 := hb_ HB hx262_3; replace hx262_4 := hb_ HB hx262_4; replace hx262_5 := hb_ HB hx262_5; replace hx262_6 := hb_ HB hx262_6; have HR262_6 := Aside0.mk hi262_6; have HC262_6 := Aside0.mk hl262_6; clear hi262_6 hl262_6; replace p262 := eq_true p262; replace q262 := eq_true q262) | ((with_reducible refine gate_callee (f := 49) rfl ?_); refine gsL_ (some 49) Tryd.func49 #[.agg #[.int .i64 ((rd_T32 l0_6 0).f0), .int .i64 ((rd_T32 l0_6 0).f1), .int .i64 ((rd_T32 l0_6 0).f2.f0), .int .i64 ((rd_T32 l0_6 0).f2.f1), .string ((rd_T32 l0_6 0).f2.f2), .string ((rd_T32 l0_6 0).f3), .slice A262_6 ((rd_T32 l0_6 0).f4).length c262_6]] ?_; (with_reducible refine (ih k (by omega) ((rd_T32 l0_6 0).f0) ((rd_T32 l0_6 0).f1) ((rd_T32 l0_6 0).f2.f0) ((rd_T32 l0_6 0).f2.f1) ((rd_T32 l0_6 0).f2.f2) ((rd_T32 l0_6 0).f3) _ _ ((rd_T32 l0_6 0).f4) t263 _ ?side1 ?side2 A38.out).mono ?_); (case side1 => exact ck_ (Kd.C_below HR262_6.out HB.out)); (case side2 => exact HC262_6.out); rintro e w43 ⟨rfl, hb⟩; refine ⟨_, rfl, ?_⟩; replace BK253 := bkb_ BK253 hb; replace HB := bs_ hb; (try clear hb); (try clear hb2); (try clear hk); (try clear hi)))
        go_ret
        exact ⟨er_, bb_⟩
       ·rw [if_neg c40] at H
        exact absurd H (by simp)
      ·rw [if_neg c39] at H
       exact absurd H (by simp)
     ·rw [if_neg c37] at H
      exact absurd H (by simp)

/-! ### impl_ExpText: function 10 -/
def impl_ExpText.f (k : Nat) (a0_0 : Int) (a0_1 : Int) (a0_2 : Int) (a0_3 : Int) (a0_4 : ByteArray) (a0_5 : ByteArray) (l0_6 : List (S32)) : Option (ByteArray) := (impl_ExpOk.f k a0_0 a0_1 a0_2 a0_3 a0_4 a0_5 l0_6).bind fun t265 => (if t265 = true then ((impl_expText.f k a0_0 a0_1 a0_2 a0_3 a0_4 a0_5 l0_6).bind fun t266 => (some t266)) else (some (⟨#[]⟩ : ByteArray)))
set_option maxHeartbeats 8000000 in
set_option maxRecDepth 100000 in
theorem impl_ExpText.calls (k : Nat) (a0_0 : Int) (a0_1 : Int) (a0_2 : Int) (a0_3 : Int) (a0_4 : ByteArray) (a0_5 : ByteArray) (A0_6 : Option Addr) (c0_6 : Nat) (l0_6 : List (S32)) (r : ByteArray) (w : World) (hr0_6 : Kd.C k32 w A0_6 l0_6.length l0_6) (hc0_6 : l0_6.length ≤ c0_6) (h : impl_ExpText.f k a0_0 a0_1 a0_2 a0_3 a0_4 a0_5 l0_6 = some r) (hM : MaxLenIn w := by first | assumption | exact MaxLenIn.drewN (by assumption) _ | exact MaxLenIn.later (by assumption) (by assumption) | exact MaxLenIn.drewN (MaxLenIn.later (by assumption) (by assumption)) _ | exact MaxLenIn.later (by assumption) ⟨by repeat (first | exact Aside0.out (by assumption) | apply below_alloc | apply pw_below_drewN | apply below_drew1 | refine below_set ?_ (Aside0.out (by assumption)))⟩) :
  Calls Tryd.prog 10 #[.agg #[.int .i64 a0_0, .int .i64 a0_1, .int .i64 a0_2, .int .i64 a0_3, .string a0_4, .string a0_5, .slice A0_6 l0_6.length c0_6]] w fun e w' => e = .returned (.string r) ∧ Below w.heap.size w w' := by
 have hu32 := Tryd.underlying32
 have HR0_6 := Aside0.mk hr0_6
 have HC0_6 := Aside0.mk hc0_6
 clear hr0_6 hc0_6
 have HB := Aside0.mk (Below.refl w.heap.size w)
 have H : ((impl_ExpOk.f k a0_0 a0_1 a0_2 a0_3 a0_4 a0_5 l0_6).bind fun t265 => (if t265 = true then ((impl_expText.f k a0_0 a0_1 a0_2 a0_3 a0_4 a0_5 l0_6).bind fun t266 => (some t266)) else (some (⟨#[]⟩ : ByteArray)))) = some r := h
 clear h
 replace H := Option.bind_eq_some_iff.mp H
 obtain ⟨t265, A20, H⟩ := H
 replace H : (if t265 = true then ((impl_expText.f k a0_0 a0_1 a0_2 a0_3 a0_4 a0_5 l0_6).bind fun t266 => (some t266)) else (some (⟨#[]⟩ : ByteArray))) = some r := H
 have A2 := Aside0.mk A20
 clear A20
 by_cases c3 : t265 = true
 ·subst c3
  have H1 : ((impl_expText.f k a0_0 a0_1 a0_2 a0_3 a0_4 a0_5 l0_6).bind fun t266 => (some t266)) = some r := by rw [if_pos rfl] at H; exact H
  clear H
  have H := H1
  clear H1
  replace H := Option.bind_eq_some_iff.mp H
  obtain ⟨t266, A40, H⟩ := H
  replace H : (some t266) = some r := H
  have A4 := Aside0.mk A40
  clear A40
  obtain rfl := Option.some.inj H
  go_enter Tryd.func10, Tryd.ntmps10
  go_wp2_with (first | ((with_reducible refine gate_dst (N := 1) rfl ?_); refine bx_ 1 #[.int .i64 a0_0, .int .i64 a0_1, .int .i64 a0_2, .int .i64 a0_3, .string a0_4, .string a0_5, .slice A0_6 l0_6.length c0_6] 32 ?_; intro gb264 hg w5 hbox hb; have BK264 := Aside0.mk (hbox); have GW264 := gw_ hg; have GE264 := gw_ hg; replace HB := bs_ hb; clear hb hbox hg; obtain ⟨hcz6_0, hcz6_1, hcz6_2, hcz6_3, hcz6_4, hcz6_5, hcz6_6, hfz6_0, hfz6_1, hfz6_2, hfz6_3, hfz6_4, hfz6_5, hfz6_6⟩ := b7_ BK264) | ((with_reducible refine gate_callee (f := 48) rfl ?_); refine gsL_ (some 4) Tryd.func48 #[.agg #[.int .i64 a0_0, .int .i64 a0_1, .int .i64 a0_2, .int .i64 a0_3, .string a0_4, .string a0_5, .slice A0_6 l0_6.length c0_6]] ?_; (with_reducible refine (impl_ExpOk.calls k a0_0 a0_1 a0_2 a0_3 a0_4 a0_5 _ _ l0_6 true _ ?side1 ?side2 A2.out).mono ?_); (case side1 => exact ck_ (Kd.C_below HR0_6.out HB.out)); (case side2 => exact HC0_6.out); rintro e w7 ⟨rfl, hb⟩; refine ⟨_, rfl, ?_⟩; replace BK264 := bkb_ BK264 hb; replace HB := bs_ hb; (try clear hb); (try clear hb2); (try clear hk); (try clear hi); obtain ⟨hcz8_0, hcz8_1, hcz8_2, hcz8_3, hcz8_4, hcz8_5, hcz8_6, hfz8_0, hfz8_1, hfz8_2, hfz8_3, hfz8_4, hfz8_5, hfz8_6⟩ := b7_ BK264) | ((with_reducible refine gate_callee (f := 49) rfl ?_); refine gsL_ (some 7) Tryd.func49 #[.agg #[.int .i64 a0_0, .int .i64 a0_1, .int .i64 a0_2, .int .i64 a0_3, .string a0_4, .string a0_5, .slice A0_6 l0_6.length c0_6]] ?_; (with_reducible refine (impl_expText.calls k a0_0 a0_1 a0_2 a0_3 a0_4 a0_5 _ _ l0_6 t266 _ ?side1 ?side2 A4.out).mono ?_); (case side1 => exact ck_ (Kd.C_below HR0_6.out HB.out)); (case side2 => exact HC0_6.out); rintro e w9 ⟨rfl, hb⟩; refine ⟨_, rfl, ?_⟩; replace BK264 := bkb_ BK264 hb; replace HB := bs_ hb; (try clear hb); (try clear hb2); (try clear hk); (try clear hi)))
  go_ret
  exact ⟨er_, bb_⟩
 ·replace c3 := Bool.eq_false_iff.mpr c3
  subst c3
  have H1 : (some (⟨#[]⟩ : ByteArray)) = some r := by rw [if_neg (show ¬ (false = true) by decide)] at H; exact H
  clear H
  have H := H1
  clear H1
  obtain rfl := Option.some.inj H
  go_enter Tryd.func10, Tryd.ntmps10
  go_wp2_with (first | ((with_reducible refine gate_dst (N := 1) rfl ?_); refine bx_ 1 #[.int .i64 a0_0, .int .i64 a0_1, .int .i64 a0_2, .int .i64 a0_3, .string a0_4, .string a0_5, .slice A0_6 l0_6.length c0_6] 32 ?_; intro gb264 hg w10 hbox hb; have BK264 := Aside0.mk (hbox); have GW264 := gw_ hg; have GE264 := gw_ hg; replace HB := bs_ hb; clear hb hbox hg; obtain ⟨hcz11_0, hcz11_1, hcz11_2, hcz11_3, hcz11_4, hcz11_5, hcz11_6, hfz11_0, hfz11_1, hfz11_2, hfz11_3, hfz11_4, hfz11_5, hfz11_6⟩ := b7_ BK264) | ((with_reducible refine gate_callee (f := 48) rfl ?_); refine gsL_ (some 4) Tryd.func48 #[.agg #[.int .i64 a0_0, .int .i64 a0_1, .int .i64 a0_2, .int .i64 a0_3, .string a0_4, .string a0_5, .slice A0_6 l0_6.length c0_6]] ?_; (with_reducible refine (impl_ExpOk.calls k a0_0 a0_1 a0_2 a0_3 a0_4 a0_5 _ _ l0_6 false _ ?side1 ?side2 A2.out).mono ?_); (case side1 => exact ck_ (Kd.C_below HR0_6.out HB.out)); (case side2 => exact HC0_6.out); rintro e w12 ⟨rfl, hb⟩; refine ⟨_, rfl, ?_⟩; replace BK264 := bkb_ BK264 hb; replace HB := bs_ hb; (try clear hb); (try clear hb2); (try clear hk); (try clear hi)))
  go_ret
  exact ⟨er_, bb_⟩

/-! ### strings_Join: function 78 -/
-- by hand
def strings_Join.f (l0 : List ByteArray) (a1 : ByteArray) : Option ByteArray := if (Lib.join (l0.map (·.data.toList)) a1.data.toList).length ≤ 140737488355328 ∧ l0.length ≤ 140737488355328 then some ⟨(Lib.join (l0.map (·.data.toList)) a1.data.toList).toArray⟩ else none
theorem strings_Join.calls (A0 : Option Addr) (c0 : Nat) (l0 : List ByteArray) (a1 : ByteArray) (r : ByteArray) (w : World) (hr0 : Kd.C Kd.string w A0 l0.length l0) (hc0 : l0.length ≤ c0) (h : strings_Join.f l0 a1 = some r) :
    Calls Tryd.prog 78 #[.slice A0 l0.length c0, .string a1] w fun e w' => e = .returned (.string r) ∧ Below w.heap.size w w' := by
  unfold strings_Join.f at h
  by_cases hc : (Lib.join (l0.map (·.data.toList)) a1.data.toList).length ≤ 140737488355328 ∧ l0.length ≤ 140737488355328
  case neg => rw [if_neg hc] at h; cases h
  rw [if_pos hc] at h
  obtain rfl := Option.some.inj h
  clear h
  cases l0 with
  | nil =>
    refine (Tryd.strings_Join_none A0 c0 a1 w).mono ?_
    rintro e w' ⟨rfl, rfl⟩
    exact ⟨rfl, Below.refl _ _⟩
  | cons x xs =>
    have hat : ∀ j : Nat, j < (x :: xs).length → ∃ ad, A0 = some ad ∧ w.cell? (ad.add j) = some (.string ((x :: xs).getD j ByteArray.empty)) := fun j hj => Kd.at_string hr0 (j : Int) (by omega) (by omega)
    obtain ⟨ad, rfl, h0⟩ := hat 0 (by simp)
    have hz : ad.add 0 = ad := by unfold Addr.add; exact if_pos rfl
    rw [hz] at h0
    obtain ⟨bk, o, sp⟩ := ad
    have hsp : sp = none := by
      cases sp with
      | none => rfl
      | some s =>
        exfalso
        unfold World.cell? at h0
        revert h0
        cases w.heap[bk]? with
        | none => simp
        | some ob => cases ob <;> simp
    subst hsp
    refine Tryd.strings_Join bk o c0 (x :: xs) a1 w ?_ (World.block_lt_of_cell? w _ h0) hc.2 hc0 hc.1
    intro j y hy
    have hj : j < (x :: xs).length := by
      rcases Nat.lt_or_ge j (x :: xs).length with g | g
      · exact g
      · rw [List.getElem?_eq_none g] at hy; cases hy
    obtain ⟨ad, e, hcell⟩ := hat j hj
    obtain rfl := Option.some.inj e
    have ha : (⟨bk, o, none⟩ : Addr).add j = ⟨bk, o + j, none⟩ := by
      unfold Addr.add
      by_cases g : j = 0
      · rw [if_pos g, g]
        rfl
      · rw [if_neg g]
    rw [ha, List.getD_eq_getElem?_getD, hy] at hcell
    exact hcell


/-! ### impl_expTexts: function 110 -/
def impl_expTexts.l0 : Nat → List ByteArray → List (S32) → Int → Int → Option (ByteArray)
 | 0, _, _, _, _ => none
 | k + 1, x3, x6, x7, x8 => if x8 < x7 then (if 0 ≤ x8 then (if x8 < (x6.length : Int) then ((impl_ExpText.f k ((rd_T32 x6 x8).f0) ((rd_T32 x6 x8).f1) ((rd_T32 x6 x8).f2.f0) ((rd_T32 x6 x8).f2.f1) ((rd_T32 x6 x8).f2.f2) ((rd_T32 x6 x8).f3) ((rd_T32 x6 x8).f4)).bind fun t269 => (if x3.length < 8796093022208 then (impl_expTexts.l0 k (x3 ++ [t269]) x6 x7 (wrap64 (x8 + 1))) else (none))) else (none)) else (none)) else ((strings_Join.f x3 (⟨#[44, 32]⟩ : ByteArray)).bind fun t273 => (if 1 + t273.size ≤ 9223372036854775807 then (if ((⟨#[91]⟩ : ByteArray) ++ t273).size + 1 ≤ 9223372036854775807 then (some (((⟨#[91]⟩ : ByteArray) ++ t273) ++ (⟨#[93]⟩ : ByteArray))) else (none)) else (none)))
def impl_expTexts.f (k : Nat) (l0 : List (S32)) : Option (ByteArray) := impl_expTexts.l0 k ([] : List ByteArray) l0 (l0.length : Int) 0
set_option maxHeartbeats 8000000 in
set_option maxRecDepth 100000 in
theorem impl_expTexts.calls (k : Nat) (A0 : Option Addr) (c0 : Nat) (l0 : List (S32)) (r : ByteArray) (w : World) (hr0 : Kd.C k32 w A0 l0.length l0) (hc0 : l0.length ≤ c0) (h : impl_expTexts.f k l0 = some r) (hM : MaxLenIn w := by first | assumption | exact MaxLenIn.drewN (by assumption) _ | exact MaxLenIn.later (by assumption) (by assumption) | exact MaxLenIn.drewN (MaxLenIn.later (by assumption) (by assumption)) _ | exact MaxLenIn.later (by assumption) ⟨by repeat (first | exact Aside0.out (by assumption) | apply below_alloc | apply pw_below_drewN | apply below_drew1 | refine below_set ?_ (Aside0.out (by assumption)))⟩) :
  Calls Tryd.prog 110 #[.slice A0 l0.length c0] w fun e w' => e = .returned (.string r) ∧ Below w.heap.size w w' := by
 have hu32 := Tryd.underlying32
 have HR0 := Aside0.mk hr0
 have HC0 := Aside0.mk hc0
 clear hr0 hc0
 have HB := Aside0.mk (Below.refl w.heap.size w)
 have H : (impl_expTexts.l0 k ([] : List ByteArray) l0 (l0.length : Int) 0) = some r := h
 clear h
 have H' := Aside0.mk H
 clear H
 go_enter Tryd.func110, Tryd.ntmps110
 go_wp2
 go_loopg [3, 8] k (fun kq v3 v8 w' => ∃ (x3_1 : List ByteArray) (x8_1 : Int), v8 = .int .i64 x8_1 ∧ Aside0 (impl_expTexts.l0 kq x3_1 l0 (l0.length : Int) x8_1 = some r) ∧ Aside0 (kq ≤ k) ∧ Aside0 (Kd.R Kd.string 9 w' w.heap.size (fun _ => True) v3 x3_1) ∧ Aside0 (Below w.heap.size w w'))
 case atStart => exact ⟨(([] : List ByteArray)), (0), rs_, H', ⟨Nat.le_refl _⟩, ⟨by first | exact Kd.R_nil _ _ _ _ _ | exact Kd.N_nil _ _ _ _ _ | exact Kd.V_nil _ _ _ _ _ | exact Kd.Q_nil _ _ _ _ _ | exact Kd.S_nil _ _ _ _ _⟩, ⟨bb_⟩⟩
 case round =>
  clear H'
  try clear c1
  obtain ⟨x3_1, x8_1, rfl, HA, HK1, HO_3, HB⟩ := hrel
  cases gk with
  | zero => exact absurd HA.out (by simp [impl_expTexts.l0])
  | succ k1 =>
   have H := HA.out
   clear HA
   simp only [impl_expTexts.l0] at H
   by_cases c2 : x8_1 < (l0.length : Int)
   ·rw [if_pos c2] at H
    have c2b0 : decide (x8_1 < (l0.length : Int)) = true := decide_eq_true c2
    clear c2
    by_cases c3 : 0 ≤ x8_1
    ·rw [if_pos c3] at H
     have c3b0 : decide (0 ≤ x8_1) = true := decide_eq_true c3
     clear c3
     by_cases c4 : x8_1 < (l0.length : Int)
     ·rw [if_pos c4] at H
      have c4b0 : decide (x8_1 < (l0.length : Int)) = true := decide_eq_true c4
      clear c4
      replace H := Option.bind_eq_some_iff.mp H
      obtain ⟨t269, A50, H⟩ := H
      replace H : (if x3_1.length < 8796093022208 then (impl_expTexts.l0 k1 (x3_1 ++ [t269]) l0 (l0.length : Int) (wrap64 (x8_1 + 1))) else (none)) = some r := H
      have A5 := Aside0.mk A50
      clear A50
      by_cases c6 : x3_1.length < 8796093022208
      ·rw [if_pos c6] at H
       have LMc6 := Aside0.mk c6
       clear c6
       obtain ⟨y270, hy270⟩ : ∃ y_ : List ByteArray, y_ = (x3_1 ++ [t269]) := ⟨_, rfl⟩
       replace H : (impl_expTexts.l0 k1 y270 l0 (l0.length : Int) (wrap64 (x8_1 + 1))) = some r := by first | (rw [hy270]; with_reducible exact H) | (have H2_ := (Option.bind_some _ _).symm.trans H; rw [hy270]; with_reducible exact H2_) | (have H2_ := (Option.bind_some _ _).symm.trans H; with_reducible exact H2_) | with_reducible exact H | (rw [hy270]; exact H) | exact H
       have Ny270 := Aside0.mk hy270
       clear hy270
       have H' := Aside0.mk H
       clear H
       have p267 : 0 ≤ (x8_1 : Int) := of_decide_eq_true (by first | (with_reducible assumption) | assumption)
       have q267 : x8_1 < (l0.length : Int) := of_decide_eq_true (by first | (with_reducible assumption) | assumption)
       obtain ⟨ad267, A267_6, c267_6, e267, hx267_0, hx267_1, hx267_2, hx267_3, hx267_4, hx267_5, hx267_6, hl267_6, hi267_6⟩ := at_T32 HR0.out x8_1 p267 q267
       cases e267
       replace hx267_0 := hb_ HB hx267_0
       replace hx267_1 := hb_ HB hx267_1
       replace hx267_2 := hb_ HB hx267_2
       replace hx267_3 := hb_ HB hx267_3
       replace hx267_4 := hb_ HB hx267_4
       replace hx267_5 := hb_ HB hx267_5
       replace hx267_6 := hb_ HB hx267_6
       have HR267_6 := Aside0.mk hi267_6
       have HC267_6 := Aside0.mk hl267_6
       clear hi267_6 hl267_6
       replace p267 := eq_true p267
       replace q267 := eq_true q267
       go_wp2_with (first | ((with_reducible refine gate_dst (N := 5) rfl ?_); refine bx_ 5 #[.int .i64 0, .int .i64 0, .int .i64 0, .int .i64 0, .string (⟨#[]⟩ : ByteArray), .string (⟨#[]⟩ : ByteArray), .slice none 0 0] 32 ?_; intro gb268 hg w7 hbox hb; have BK268 := Aside0.mk (hbox); have GW268 := gw_ hg; have GE268 := gw_ hg; replace HO_3 := Aside0.mk (Kd.R_below (rk_ HO_3.out) hb); replace HB := bs_ hb; clear hb hbox hg; obtain ⟨hcz8_0, hcz8_1, hcz8_2, hcz8_3, hcz8_4, hcz8_5, hcz8_6, hfz8_0, hfz8_1, hfz8_2, hfz8_3, hfz8_4, hfz8_5, hfz8_6⟩ := b7_ BK268) | ((with_reducible refine gate_callee (f := 10) rfl ?_); refine gsL_ (some 14) Tryd.func10 #[.agg #[.int .i64 ((rd_T32 l0 x8_1).f0), .int .i64 ((rd_T32 l0 x8_1).f1), .int .i64 ((rd_T32 l0 x8_1).f2.f0), .int .i64 ((rd_T32 l0 x8_1).f2.f1), .string ((rd_T32 l0 x8_1).f2.f2), .string ((rd_T32 l0 x8_1).f3), .slice A267_6 ((rd_T32 l0 x8_1).f4).length c267_6]] ?_; (with_reducible refine (impl_ExpText.calls k1 ((rd_T32 l0 x8_1).f0) ((rd_T32 l0 x8_1).f1) ((rd_T32 l0 x8_1).f2.f0) ((rd_T32 l0 x8_1).f2.f1) ((rd_T32 l0 x8_1).f2.f2) ((rd_T32 l0 x8_1).f3) _ _ ((rd_T32 l0 x8_1).f4) t269 _ ?side1 ?side2 A5.out).mono ?_); (case side1 => exact Kd.C_below HR267_6.out bb_); (case side2 => exact HC267_6.out); rintro e w9 ⟨rfl, hb⟩; refine ⟨_, rfl, ?_⟩; have n0_ := Aside0.mk (Kd.R_below (rk_ (Kd.R_mono (Kd.R_far (p := ⟨gb268, 6, none⟩) (Kd.R_far (p := ⟨gb268, 5, none⟩) (Kd.R_far (p := ⟨gb268, 4, none⟩) (Kd.R_far (p := ⟨gb268, 3, none⟩) (Kd.R_far (p := ⟨gb268, 2, none⟩) (Kd.R_far (p := ⟨gb268, 1, none⟩) (Kd.R_far (p := ⟨gb268, 0, none⟩) (Kd.R_types HO_3.out BK268.out (by decide)) (fun _ hk => hk.2) (.int .i64 ((rd_T32 l0 x8_1).f0))) (fun _ hk => hk.2) (.int .i64 ((rd_T32 l0 x8_1).f1))) (fun _ hk => hk.2) (.int .i64 ((rd_T32 l0 x8_1).f2.f0))) (fun _ hk => hk.2) (.int .i64 ((rd_T32 l0 x8_1).f2.f1))) (fun _ hk => hk.2) (.string ((rd_T32 l0 x8_1).f2.f2))) (fun _ hk => hk.2) (.string ((rd_T32 l0 x8_1).f3))) (fun _ hk => hk.2) (.slice A267_6 ((rd_T32 l0 x8_1).f4).length c267_6)) (fun _ h_ => h_.1))) hb); have n1_ := Aside0.mk (blk_below (g := gb268) (o := .cells #[.int .i64 ((rd_T32 l0 x8_1).f0), .int .i64 ((rd_T32 l0 x8_1).f1), .int .i64 ((rd_T32 l0 x8_1).f2.f0), .int .i64 ((rd_T32 l0 x8_1).f2.f1), .string ((rd_T32 l0 x8_1).f2.f2), .string ((rd_T32 l0 x8_1).f3), .slice A267_6 ((rd_T32 l0 x8_1).f4).length c267_6] 32 (0, 0)) (bp7_ (bkx_ BK268.out)) hb); have n2_ := bs_ hb; clear HO_3; clear BK268; clear HB; have HO_3 := n0_; have BK268 := n1_; have HB := n2_; clear n0_ n1_ n2_; (try clear hb); (try clear hb2); (try clear hk); (try clear hi)) | ((with_reducible refine gate_builtin (b := .append) (xs := #[.tmp 12, .tmp 15]) rfl ?_); at_builtin; refine Kd.R_append Kd.string (w0 := w) w.heap.size rfl (.tmp 12) (.tmp 15) 99 9 (.string ⟨#[]⟩) 16 rfl Tryd.underlying99 info9 rfl (by decide) (by omega) u3 x3_1 t269 [.string t269] (fun _ => True) (fun _ => False) rfl rfl ?aP (fun _ hk => hk.elim) ?aF ?aO ?aB ?aS ?aL ?_; (case aP => exact rfl); (case aB => exact bb_); (case aF => exact (fun _ _ => trivial)); (case aO => exact (rk_ HO_3.out)); (case aS => exact (below_size bb_)); (case aL => have := LMc6.out; omega); intro v271 w10 ho hb hg hat; rw [← Ny270.out] at ho; have HO272 := Aside0.mk (ho); replace BK268 := Aside0.mk (blk_grown (g := gb268) (o := .cells #[.int .i64 ((rd_T32 l0 x8_1).f0), .int .i64 ((rd_T32 l0 x8_1).f1), .int .i64 ((rd_T32 l0 x8_1).f2.f0), .int .i64 ((rd_T32 l0 x8_1).f2.f1), .string ((rd_T32 l0 x8_1).f2.f2), .string ((rd_T32 l0 x8_1).f3), .slice A267_6 ((rd_T32 l0 x8_1).f4).length c267_6] 32 (0, 0)) (bkx_ BK268.out) hg (Kd.R_ne HO_3.out BK268.out (by decide))); replace HB := Aside0.mk (hb); clear HO_3; clear ho hb hg hat))
       go_roundg k1
       case measure => have := HK1.out; omega
       case rel => exact ⟨(y270), (wrap64 (x8_1 + 1)), rs_, H', ⟨by have := HK1.out; omega⟩, ⟨by (with_reducible repeat (first | apply Kd.R_alloc | apply Kd.R_drewN | apply Kd.R_drew)); exact HO272.out⟩, ⟨bb_⟩⟩
      ·rw [if_neg c6] at H
       exact absurd H (by simp)
     ·rw [if_neg c4] at H
      exact absurd H (by simp)
    ·rw [if_neg c3] at H
     exact absurd H (by simp)
   ·rw [if_neg c2] at H
    have c2b0 : decide (x8_1 < (l0.length : Int)) = false := decide_eq_false c2
    clear c2
    replace H := Option.bind_eq_some_iff.mp H
    obtain ⟨t273, A110, H⟩ := H
    replace H : (if 1 + t273.size ≤ 9223372036854775807 then (if ((⟨#[91]⟩ : ByteArray) ++ t273).size + 1 ≤ 9223372036854775807 then (some (((⟨#[91]⟩ : ByteArray) ++ t273) ++ (⟨#[93]⟩ : ByteArray))) else (none)) else (none)) = some r := H
    have A11 := Aside0.mk A110
    clear A110
    by_cases c12 : 1 + t273.size ≤ 9223372036854775807
    ·rw [if_pos c12] at H
     have c12b0 := eq_true c12
     have c12b1 : decide (1 + t273.size ≤ 9223372036854775807) = true := decide_eq_true c12
     try have c12b2 : (9223372036854775807 < 1 + t273.size) = False := eq_false (Nat.not_lt.2 c12)
     by_cases c13 : ((⟨#[91]⟩ : ByteArray) ++ t273).size + 1 ≤ 9223372036854775807
     ·rw [if_pos c13] at H
      have c13b0 := eq_true c13
      have c13b1 : decide (((⟨#[91]⟩ : ByteArray) ++ t273).size + 1 ≤ 9223372036854775807) = true := decide_eq_true c13
      try have c13b2 : (9223372036854775807 < ((⟨#[91]⟩ : ByteArray) ++ t273).size + 1) = False := eq_false (Nat.not_lt.2 c13)
      (try (have c13b0z := c13b0; simp only [ByteArray.size_append] at c13b0z))
      (try (have c13b1z := c13b1; simp only [ByteArray.size_append] at c13b1z))
      (try (have c13b2z := c13b2; simp only [ByteArray.size_append] at c13b2z))
      (try (have c13b2y : (9223372036854775807 < 1 + t273.size + 1) = False := by (apply eq_false; have hq_ := c13; simp only [ByteArray.size_append, ByteArray.size_extract] at hq_; have hl0_ : (⟨#[91]⟩ : ByteArray).size = 1 := rfl; omega)))
      obtain rfl := Option.some.inj H
      obtain ⟨Ao14, co14, eo14⟩ := Kd.R_slice HO_3.out
      subst eo14
      go_wp2_with (first | ((with_reducible refine gate_callee (f := 78) rfl ?_); refine gsL_ (some 19) Tryd.func78 #[.slice Ao14 x3_1.length co14, .string (⟨#[44, 32]⟩ : ByteArray)] ?_; (with_reducible refine (strings_Join.calls _ _ x3_1 (⟨#[44, 32]⟩ : ByteArray) t273 _ ?side1 ?side2 A11.out).mono ?_); (case side1 => exact ck_ (Kd.R_reads' HO_3.out).2.2); (case side2 => exact (Kd.R_reads' HO_3.out).2.1); rintro e w15 ⟨rfl, hb⟩; refine ⟨_, rfl, ?_⟩; replace HO_3 := Aside0.mk (Kd.R_below (rk_ HO_3.out) hb); replace HB := bs_ hb; (try clear hb); (try clear hb2); (try clear hk); (try clear hi)))
      go_ret
      exact ⟨er_, bb_⟩
     ·rw [if_neg c13] at H
      exact absurd H (by simp)
    ·rw [if_neg c12] at H
     exact absurd H (by simp)

end Go.Proofs.YthgdmdabdlgliaaDoor.PFnExactPlanText
