-- WRITTEN BY xprint.py, a program of this session over the kit's printer: by nobody's hand
-- PRESSED
import Derived.Test.YthgdmdabdlgliaaDoorPress
import Derived.Test.YthgdmdabdlgliaaDoorPFnExactExpTextx0
import Derived.Test.YthgdmdabdlgliaaDoorPFnExactExpTextx6
namespace Go.Proofs.YthgdmdabdlgliaaDoor.PFnExactExpText
open Go.RowKit Go.Proofs.YthgdmdabdlgliaaDoorW.PrintWords Go.Proofs.YthgdmdabdlgliaaDoorW.PrintLast Go.Proofs.YthgdmdabdlgliaaDoorW.PrintMore
set_option linter.unusedVariables false
set_option linter.unusedSimpArgs false

/-! ### strings_ReplaceAll: function 66 -/
-- by hand
def strings_ReplaceAll.f (a0 : ByteArray) (a1 : ByteArray) (a2 : ByteArray) : Option ByteArray := if a0.size < 4294967281 ∧ 1 ≤ a1.size ∧ a0.size + Lib.countB a0 a1 * a2.size ≤ 140737488355328 then some ⟨(Lib.replaceAll a0.data.toList a1.data.toList a2.data.toList).toArray⟩ else none
theorem strings_ReplaceAll.calls (a0 : ByteArray) (a1 : ByteArray) (a2 : ByteArray) (r : ByteArray) (w : World) (h : strings_ReplaceAll.f a0 a1 a2 = some r) (hM : MaxLenIn w := by first | assumption | exact MaxLenIn.drewN (by assumption) _ | exact MaxLenIn.later (by assumption) (by assumption) | exact MaxLenIn.drewN (MaxLenIn.later (by assumption) (by assumption)) _ | exact MaxLenIn.later (by assumption) ⟨by repeat (first | exact Aside0.out (by assumption) | apply below_alloc | apply pw_below_drewN | apply below_drew1 | refine below_set ?_ (Aside0.out (by assumption)))⟩) :
    Calls Tryd.prog 66 #[.string a0, .string a1, .string a2] w fun e w' => e = .returned (.string r) ∧ Below w.heap.size w w' := by
  unfold strings_ReplaceAll.f at h
  by_cases hc : a0.size < 4294967281 ∧ 1 ≤ a1.size ∧ a0.size + Lib.countB a0 a1 * a2.size ≤ 140737488355328
  case neg => rw [if_neg hc] at h; cases h
  rw [if_pos hc] at h
  obtain rfl := Option.some.inj h
  obtain ⟨m, hm⟩ := hM.1
  exact Tryd.strings_ReplaceAll a0 a1 a2 m w hc.1 hm hc.2.1 hc.2.2


/-! ### impl_ValueText: function 26 -/
def impl_ValueText.f (a0_0 : Int) (a0_1 : Int) (a0_2 : ByteArray) : Option (ByteArray) := (impl_ValueOk.f a0_0 a0_1 a0_2).bind fun t180 => (if t180 = true then (if a0_0 = 0 then (some (⟨#[110, 117, 108, 108]⟩ : ByteArray)) else (if a0_0 = 1 then ((impl_DecText.f a0_1).bind fun t181 => (some t181)) else (if a0_0 = 2 then ((strconv_FormatBool_65.f (a0_1 == 1)).bind fun t182 => (some t182)) else ((strings_ReplaceAll.f a0_2 (⟨#[39]⟩ : ByteArray) (⟨#[39, 39]⟩ : ByteArray)).bind fun t183 => (if 1 + t183.size ≤ 9223372036854775807 then (if ((⟨#[39]⟩ : ByteArray) ++ t183).size + 1 ≤ 9223372036854775807 then (some (((⟨#[39]⟩ : ByteArray) ++ t183) ++ (⟨#[39]⟩ : ByteArray))) else (none)) else (none)))))) else (some (⟨#[]⟩ : ByteArray)))
set_option maxHeartbeats 8000000 in
set_option maxRecDepth 100000 in
theorem impl_ValueText.calls (a0_0 : Int) (a0_1 : Int) (a0_2 : ByteArray) (r : ByteArray) (w : World) (h : impl_ValueText.f a0_0 a0_1 a0_2 = some r) (hM : MaxLenIn w := by first | assumption | exact MaxLenIn.drewN (by assumption) _ | exact MaxLenIn.later (by assumption) (by assumption) | exact MaxLenIn.drewN (MaxLenIn.later (by assumption) (by assumption)) _ | exact MaxLenIn.later (by assumption) ⟨by repeat (first | exact Aside0.out (by assumption) | apply below_alloc | apply pw_below_drewN | apply below_drew1 | refine below_set ?_ (Aside0.out (by assumption)))⟩) :
  Calls Tryd.prog 26 #[.agg #[.int .i64 a0_0, .int .i64 a0_1, .string a0_2]] w fun e w' => e = .returned (.string r) ∧ Below w.heap.size w w' := by
 have hu29 := Tryd.underlying29
 have HB := Aside0.mk (Below.refl w.heap.size w)
 have H : ((impl_ValueOk.f a0_0 a0_1 a0_2).bind fun t180 => (if t180 = true then (if a0_0 = 0 then (some (⟨#[110, 117, 108, 108]⟩ : ByteArray)) else (if a0_0 = 1 then ((impl_DecText.f a0_1).bind fun t181 => (some t181)) else (if a0_0 = 2 then ((strconv_FormatBool_65.f (a0_1 == 1)).bind fun t182 => (some t182)) else ((strings_ReplaceAll.f a0_2 (⟨#[39]⟩ : ByteArray) (⟨#[39, 39]⟩ : ByteArray)).bind fun t183 => (if 1 + t183.size ≤ 9223372036854775807 then (if ((⟨#[39]⟩ : ByteArray) ++ t183).size + 1 ≤ 9223372036854775807 then (some (((⟨#[39]⟩ : ByteArray) ++ t183) ++ (⟨#[39]⟩ : ByteArray))) else (none)) else (none)))))) else (some (⟨#[]⟩ : ByteArray)))) = some r := h
 clear h
 replace H := Option.bind_eq_some_iff.mp H
 obtain ⟨t180, A20, H⟩ := H
 replace H : (if t180 = true then (if a0_0 = 0 then (some (⟨#[110, 117, 108, 108]⟩ : ByteArray)) else (if a0_0 = 1 then ((impl_DecText.f a0_1).bind fun t181 => (some t181)) else (if a0_0 = 2 then ((strconv_FormatBool_65.f (a0_1 == 1)).bind fun t182 => (some t182)) else ((strings_ReplaceAll.f a0_2 (⟨#[39]⟩ : ByteArray) (⟨#[39, 39]⟩ : ByteArray)).bind fun t183 => (if 1 + t183.size ≤ 9223372036854775807 then (if ((⟨#[39]⟩ : ByteArray) ++ t183).size + 1 ≤ 9223372036854775807 then (some (((⟨#[39]⟩ : ByteArray) ++ t183) ++ (⟨#[39]⟩ : ByteArray))) else (none)) else (none)))))) else (some (⟨#[]⟩ : ByteArray))) = some r := H
 have A2 := Aside0.mk A20
 clear A20
 by_cases c3 : t180 = true
 ·subst c3
  have H1 : (if a0_0 = 0 then (some (⟨#[110, 117, 108, 108]⟩ : ByteArray)) else (if a0_0 = 1 then ((impl_DecText.f a0_1).bind fun t181 => (some t181)) else (if a0_0 = 2 then ((strconv_FormatBool_65.f (a0_1 == 1)).bind fun t182 => (some t182)) else ((strings_ReplaceAll.f a0_2 (⟨#[39]⟩ : ByteArray) (⟨#[39, 39]⟩ : ByteArray)).bind fun t183 => (if 1 + t183.size ≤ 9223372036854775807 then (if ((⟨#[39]⟩ : ByteArray) ++ t183).size + 1 ≤ 9223372036854775807 then (some (((⟨#[39]⟩ : ByteArray) ++ t183) ++ (⟨#[39]⟩ : ByteArray))) else (none)) else (none)))))) = some r := by rw [if_pos rfl] at H; exact H
  clear H
  have H := H1
  clear H1
  by_cases c4 : a0_0 = 0
  ·rw [if_pos c4] at H
   have c4b0 : (a0_0 == 0) = true := beq_iff_eq.mpr c4
   have c4b1 : (a0_0 != 0) = false := bne_eq_false_iff_eq.mpr c4
   clear c4
   obtain rfl := Option.some.inj H
   go_enter Tryd.func26, Tryd.ntmps26
   go_wp2_with (first | ((with_reducible refine gate_dst (N := 1) rfl ?_); refine bx_ 1 #[.int .i64 a0_0, .int .i64 a0_1, .string a0_2] 29 ?_; intro gb179 hg w5 hbox hb; have BK179 := Aside0.mk (hbox); have GW179 := gw_ hg; have GE179 := gw_ hg; replace HB := bs_ hb; clear hb hbox hg; obtain ⟨hcz6_0, hcz6_1, hcz6_2, hfz6_0, hfz6_1, hfz6_2⟩ := b3_ BK179) | ((with_reducible refine gate_callee (f := 24) rfl ?_); refine gsL_ (some 5) Tryd.func24 #[.agg #[.int .i64 a0_0, .int .i64 a0_1, .string a0_2]] ?_; (with_reducible refine (impl_ValueOk.calls a0_0 a0_1 a0_2 true _ A2.out).mono ?_); rintro e w7 ⟨rfl, hb⟩; refine ⟨_, rfl, ?_⟩; replace BK179 := bkb_ BK179 hb; replace HB := bs_ hb; (try clear hb); (try clear hb2); (try clear hk); (try clear hi); obtain ⟨hcz8_0, hcz8_1, hcz8_2, hfz8_0, hfz8_1, hfz8_2⟩ := b3_ BK179))
   go_ret
   exact ⟨er_, bb_⟩
  ·rw [if_neg c4] at H
   have c4b0 : (a0_0 == 0) = false := beq_eq_false_iff_ne.mpr c4
   have c4b1 : (a0_0 != 0) = true := bne_iff_ne.mpr c4
   by_cases c9 : a0_0 = 1
   ·rw [if_pos c9] at H
    have c9b0 : (a0_0 == 1) = true := beq_iff_eq.mpr c9
    have c9b1 : (a0_0 != 1) = false := bne_eq_false_iff_eq.mpr c9
    clear c9
    replace H := Option.bind_eq_some_iff.mp H
    obtain ⟨t181, A100, H⟩ := H
    replace H : (some t181) = some r := H
    have A10 := Aside0.mk A100
    clear A100
    obtain rfl := Option.some.inj H
    go_enter Tryd.func26, Tryd.ntmps26
    go_wp2_with (first | ((with_reducible refine gate_dst (N := 1) rfl ?_); refine bx_ 1 #[.int .i64 a0_0, .int .i64 a0_1, .string a0_2] 29 ?_; intro gb179 hg w11 hbox hb; have BK179 := Aside0.mk (hbox); have GW179 := gw_ hg; have GE179 := gw_ hg; replace HB := bs_ hb; clear hb hbox hg; obtain ⟨hcz12_0, hcz12_1, hcz12_2, hfz12_0, hfz12_1, hfz12_2⟩ := b3_ BK179) | ((with_reducible refine gate_callee (f := 24) rfl ?_); refine gsL_ (some 5) Tryd.func24 #[.agg #[.int .i64 a0_0, .int .i64 a0_1, .string a0_2]] ?_; (with_reducible refine (impl_ValueOk.calls a0_0 a0_1 a0_2 true _ A2.out).mono ?_); rintro e w13 ⟨rfl, hb⟩; refine ⟨_, rfl, ?_⟩; replace BK179 := bkb_ BK179 hb; replace HB := bs_ hb; (try clear hb); (try clear hb2); (try clear hk); (try clear hi); obtain ⟨hcz14_0, hcz14_1, hcz14_2, hfz14_0, hfz14_1, hfz14_2⟩ := b3_ BK179) | ((with_reducible refine gate_callee (f := 30) rfl ?_); refine gsL_ (some 17) Tryd.func30 #[.int .i64 a0_1] ?_; (with_reducible refine (impl_DecText.calls a0_1 t181 _ A10.out).mono ?_); rintro e w15 ⟨rfl, hb⟩; refine ⟨_, rfl, ?_⟩; replace BK179 := bkb_ BK179 hb; replace HB := bs_ hb; (try clear hb); (try clear hb2); (try clear hk); (try clear hi)))
    go_ret
    exact ⟨er_, bb_⟩
   ·rw [if_neg c9] at H
    have c9b0 : (a0_0 == 1) = false := beq_eq_false_iff_ne.mpr c9
    have c9b1 : (a0_0 != 1) = true := bne_iff_ne.mpr c9
    by_cases c16 : a0_0 = 2
    ·rw [if_pos c16] at H
     have c16b0 : (a0_0 == 2) = true := beq_iff_eq.mpr c16
     have c16b1 : (a0_0 != 2) = false := bne_eq_false_iff_eq.mpr c16
     clear c16
     replace H := Option.bind_eq_some_iff.mp H
     obtain ⟨t182, A170, H⟩ := H
     replace H : (some t182) = some r := H
     have A17 := Aside0.mk A170
     clear A170
     obtain rfl := Option.some.inj H
     go_enter Tryd.func26, Tryd.ntmps26
     go_wp2_with (first | ((with_reducible refine gate_dst (N := 1) rfl ?_); refine bx_ 1 #[.int .i64 a0_0, .int .i64 a0_1, .string a0_2] 29 ?_; intro gb179 hg w18 hbox hb; have BK179 := Aside0.mk (hbox); have GW179 := gw_ hg; have GE179 := gw_ hg; replace HB := bs_ hb; clear hb hbox hg; obtain ⟨hcz19_0, hcz19_1, hcz19_2, hfz19_0, hfz19_1, hfz19_2⟩ := b3_ BK179) | ((with_reducible refine gate_callee (f := 24) rfl ?_); refine gsL_ (some 5) Tryd.func24 #[.agg #[.int .i64 a0_0, .int .i64 a0_1, .string a0_2]] ?_; (with_reducible refine (impl_ValueOk.calls a0_0 a0_1 a0_2 true _ A2.out).mono ?_); rintro e w20 ⟨rfl, hb⟩; refine ⟨_, rfl, ?_⟩; replace BK179 := bkb_ BK179 hb; replace HB := bs_ hb; (try clear hb); (try clear hb2); (try clear hk); (try clear hi); obtain ⟨hcz21_0, hcz21_1, hcz21_2, hfz21_0, hfz21_1, hfz21_2⟩ := b3_ BK179) | ((with_reducible refine gate_callee (f := 65) rfl ?_); refine gsL_ (some 25) Tryd.func65 #[.bool (a0_1 == 1)] ?_; (with_reducible refine (strconv_FormatBool_65.calls (a0_1 == 1) t182 _ A17.out).mono ?_); rintro e w' ⟨rfl, ⟨nd, rfl⟩⟩; refine ⟨_, rfl, ?_⟩))
     go_ret
     exact ⟨er_, bb_⟩
    ·rw [if_neg c16] at H
     have c16b0 : (a0_0 == 2) = false := beq_eq_false_iff_ne.mpr c16
     have c16b1 : (a0_0 != 2) = true := bne_iff_ne.mpr c16
     replace H := Option.bind_eq_some_iff.mp H
     obtain ⟨t183, A220, H⟩ := H
     replace H : (if 1 + t183.size ≤ 9223372036854775807 then (if ((⟨#[39]⟩ : ByteArray) ++ t183).size + 1 ≤ 9223372036854775807 then (some (((⟨#[39]⟩ : ByteArray) ++ t183) ++ (⟨#[39]⟩ : ByteArray))) else (none)) else (none)) = some r := H
     have A22 := Aside0.mk A220
     clear A220
     by_cases c23 : 1 + t183.size ≤ 9223372036854775807
     ·rw [if_pos c23] at H
      have c23b0 := eq_true c23
      have c23b1 : decide (1 + t183.size ≤ 9223372036854775807) = true := decide_eq_true c23
      try have c23b2 : (9223372036854775807 < 1 + t183.size) = False := eq_false (Nat.not_lt.2 c23)
      by_cases c24 : ((⟨#[39]⟩ : ByteArray) ++ t183).size + 1 ≤ 9223372036854775807
      ·rw [if_pos c24] at H
       have c24b0 := eq_true c24
       have c24b1 : decide (((⟨#[39]⟩ : ByteArray) ++ t183).size + 1 ≤ 9223372036854775807) = true := decide_eq_true c24
       try have c24b2 : (9223372036854775807 < ((⟨#[39]⟩ : ByteArray) ++ t183).size + 1) = False := eq_false (Nat.not_lt.2 c24)
       (try (have c24b0z := c24b0; simp only [ByteArray.size_append] at c24b0z))
       (try (have c24b1z := c24b1; simp only [ByteArray.size_append] at c24b1z))
       (try (have c24b2z := c24b2; simp only [ByteArray.size_append] at c24b2z))
       (try (have c24b2y : (9223372036854775807 < 1 + t183.size + 1) = False := by (apply eq_false; have hq_ := c24; simp only [ByteArray.size_append, ByteArray.size_extract] at hq_; have hl0_ : (⟨#[39]⟩ : ByteArray).size = 1 := rfl; omega)))
       obtain rfl := Option.some.inj H
       go_enter Tryd.func26, Tryd.ntmps26
       go_wp2_with (first | ((with_reducible refine gate_dst (N := 1) rfl ?_); refine bx_ 1 #[.int .i64 a0_0, .int .i64 a0_1, .string a0_2] 29 ?_; intro gb179 hg w25 hbox hb; have BK179 := Aside0.mk (hbox); have GW179 := gw_ hg; have GE179 := gw_ hg; replace HB := bs_ hb; clear hb hbox hg; obtain ⟨hcz26_0, hcz26_1, hcz26_2, hfz26_0, hfz26_1, hfz26_2⟩ := b3_ BK179) | ((with_reducible refine gate_callee (f := 24) rfl ?_); refine gsL_ (some 5) Tryd.func24 #[.agg #[.int .i64 a0_0, .int .i64 a0_1, .string a0_2]] ?_; (with_reducible refine (impl_ValueOk.calls a0_0 a0_1 a0_2 true _ A2.out).mono ?_); rintro e w27 ⟨rfl, hb⟩; refine ⟨_, rfl, ?_⟩; replace BK179 := bkb_ BK179 hb; replace HB := bs_ hb; (try clear hb); (try clear hb2); (try clear hk); (try clear hi); obtain ⟨hcz28_0, hcz28_1, hcz28_2, hfz28_0, hfz28_1, hfz28_2⟩ := b3_ BK179) | ((with_reducible refine gate_callee (f := 66) rfl ?_); refine gsL_ (some 28) Tryd.func66 #[.string a0_2, .string (⟨#[39]⟩ : ByteArray), .string (⟨#[39, 39]⟩ : ByteArray)] ?_; (with_reducible refine (strings_ReplaceAll.calls a0_2 (⟨#[39]⟩ : ByteArray) (⟨#[39, 39]⟩ : ByteArray) t183 _ A22.out).mono ?_); rintro e w29 ⟨rfl, hb⟩; refine ⟨_, rfl, ?_⟩; replace BK179 := bkb_ BK179 hb; replace HB := bs_ hb; (try clear hb); (try clear hb2); (try clear hk); (try clear hi)))
       go_ret
       exact ⟨er_, bb_⟩
      ·rw [if_neg c24] at H
       exact absurd H (by simp)
     ·rw [if_neg c23] at H
      exact absurd H (by simp)
 ·replace c3 := Bool.eq_false_iff.mpr c3
  subst c3
  have H1 : (some (⟨#[]⟩ : ByteArray)) = some r := by rw [if_neg (show ¬ (false = true) by decide)] at H; exact H
  clear H
  have H := H1
  clear H1
  obtain rfl := Option.some.inj H
  go_enter Tryd.func26, Tryd.ntmps26
  go_wp2_with (first | ((with_reducible refine gate_dst (N := 1) rfl ?_); refine bx_ 1 #[.int .i64 a0_0, .int .i64 a0_1, .string a0_2] 29 ?_; intro gb179 hg w30 hbox hb; have BK179 := Aside0.mk (hbox); have GW179 := gw_ hg; have GE179 := gw_ hg; replace HB := bs_ hb; clear hb hbox hg; obtain ⟨hcz31_0, hcz31_1, hcz31_2, hfz31_0, hfz31_1, hfz31_2⟩ := b3_ BK179) | ((with_reducible refine gate_callee (f := 24) rfl ?_); refine gsL_ (some 5) Tryd.func24 #[.agg #[.int .i64 a0_0, .int .i64 a0_1, .string a0_2]] ?_; (with_reducible refine (impl_ValueOk.calls a0_0 a0_1 a0_2 false _ A2.out).mono ?_); rintro e w32 ⟨rfl, hb⟩; refine ⟨_, rfl, ?_⟩; replace BK179 := bkb_ BK179 hb; replace HB := bs_ hb; (try clear hb); (try clear hb2); (try clear hk); (try clear hi)))
  go_ret
  exact ⟨er_, bb_⟩

/-! ### impl_expText: function 49 -/
def impl_expText.f : Nat → Int → Int → Int → Int → ByteArray → ByteArray → List (S32) → Option (ByteArray)
 | 0, _, _, _, _, _, _, _ => none
 | k + 1, a0_0, a0_1, a0_2, a0_3, a0_4, a0_5, l0_6 => if a0_0 = 0 then ((impl_DecText.f a0_1).bind fun t185 => (if 1 + t185.size ≤ 9223372036854775807 then (some ((⟨#[99]⟩ : ByteArray) ++ t185)) else (none))) else (if a0_0 = 1 then ((impl_ValueText.f a0_2 a0_3 a0_4).bind fun t186 => (some t186)) else (if a0_0 = 2 then (if 0 < (l0_6.length : Int) then ((impl_expText.f k ((rd_T32 l0_6 0).f0) ((rd_T32 l0_6 0).f1) ((rd_T32 l0_6 0).f2.f0) ((rd_T32 l0_6 0).f2.f1) ((rd_T32 l0_6 0).f2.f2) ((rd_T32 l0_6 0).f3) ((rd_T32 l0_6 0).f4)).bind fun t188 => (if 1 + t188.size ≤ 9223372036854775807 then (if ((⟨#[40]⟩ : ByteArray) ++ t188).size + 1 ≤ 9223372036854775807 then (if (((⟨#[40]⟩ : ByteArray) ++ t188) ++ (⟨#[32]⟩ : ByteArray)).size + a0_5.size ≤ 9223372036854775807 then (if ((((⟨#[40]⟩ : ByteArray) ++ t188) ++ (⟨#[32]⟩ : ByteArray)) ++ a0_5).size + 1 ≤ 9223372036854775807 then (if 1 < (l0_6.length : Int) then ((impl_expText.f k ((rd_T32 l0_6 1).f0) ((rd_T32 l0_6 1).f1) ((rd_T32 l0_6 1).f2.f0) ((rd_T32 l0_6 1).f2.f1) ((rd_T32 l0_6 1).f2.f2) ((rd_T32 l0_6 1).f3) ((rd_T32 l0_6 1).f4)).bind fun t190 => (if (((((⟨#[40]⟩ : ByteArray) ++ t188) ++ (⟨#[32]⟩ : ByteArray)) ++ a0_5) ++ (⟨#[32]⟩ : ByteArray)).size + t190.size ≤ 9223372036854775807 then (if ((((((⟨#[40]⟩ : ByteArray) ++ t188) ++ (⟨#[32]⟩ : ByteArray)) ++ a0_5) ++ (⟨#[32]⟩ : ByteArray)) ++ t190).size + 1 ≤ 9223372036854775807 then (some (((((((⟨#[40]⟩ : ByteArray) ++ t188) ++ (⟨#[32]⟩ : ByteArray)) ++ a0_5) ++ (⟨#[32]⟩ : ByteArray)) ++ t190) ++ (⟨#[41]⟩ : ByteArray))) else (none)) else (none))) else (none)) else (none)) else (none)) else (none)) else (none))) else (none)) else (if a0_0 = 3 then (if 0 < (l0_6.length : Int) then ((impl_expText.f k ((rd_T32 l0_6 0).f0) ((rd_T32 l0_6 0).f1) ((rd_T32 l0_6 0).f2.f0) ((rd_T32 l0_6 0).f2.f1) ((rd_T32 l0_6 0).f2.f2) ((rd_T32 l0_6 0).f3) ((rd_T32 l0_6 0).f4)).bind fun t192 => (if 4 + t192.size ≤ 9223372036854775807 then (if ((⟨#[110, 111, 116, 40]⟩ : ByteArray) ++ t192).size + 1 ≤ 9223372036854775807 then (some (((⟨#[110, 111, 116, 40]⟩ : ByteArray) ++ t192) ++ (⟨#[41]⟩ : ByteArray))) else (none)) else (none))) else (none)) else (if 0 < (l0_6.length : Int) then ((impl_expText.f k ((rd_T32 l0_6 0).f0) ((rd_T32 l0_6 0).f1) ((rd_T32 l0_6 0).f2.f0) ((rd_T32 l0_6 0).f2.f1) ((rd_T32 l0_6 0).f2.f2) ((rd_T32 l0_6 0).f3) ((rd_T32 l0_6 0).f4)).bind fun t194 => (if 7 + t194.size ≤ 9223372036854775807 then (if ((⟨#[105, 115, 110, 117, 108, 108, 40]⟩ : ByteArray) ++ t194).size + 1 ≤ 9223372036854775807 then (some (((⟨#[105, 115, 110, 117, 108, 108, 40]⟩ : ByteArray) ++ t194) ++ (⟨#[41]⟩ : ByteArray))) else (none)) else (none))) else (none)))))
def impl_expText.T7 : Bool × List (List Nat × List Nat) := (true, [([], []), ([0], [0]), ([1], [1]), ([2], [2]), ([3], [3]), ([4], [4]), ([5], [5]), ([], []), ([7], [7]), ([6, 8], [6, 8]), ([9], [9]), ([], []), ([11], [11]), ([12], [12]), ([13], [13]), ([14, 4], [14]), ([10, 15], [10, 15]), ([16], [16]), ([17, 15, 0, 1, 2, 3, 4, 5, 6, 7, 8, 9, 10, 11, 12, 13, 14, 15, 16, 17], [17])])
def impl_expText.B7 : List Nat := [0, 1, 3, 7, 15, 31, 63, 0, 128, 511, 1023, 0, 2048, 6144, 14336, 30751, 65535, 131071, 262143]
theorem impl_expText.tab7 : rtab .any (opsOf Tryd.f49 7) = impl_expText.T7 := by kernel_rfl
theorem impl_expText.bits7 : waitsOk impl_expText.T7.2 impl_expText.B7 = true := by kernel_rfl
set_option maxHeartbeats 8000000 in
set_option maxRecDepth 100000 in
theorem impl_expText.calls (k : Nat) : ∀ (a0_0 : Int) (a0_1 : Int) (a0_2 : Int) (a0_3 : Int) (a0_4 : ByteArray) (a0_5 : ByteArray) (A0_6 : Option Addr) (c0_6 : Nat) (l0_6 : List (S32)) (r : ByteArray) (w : World) (hr0_6 : Kd.C k32 w A0_6 l0_6.length l0_6) (hc0_6 : l0_6.length ≤ c0_6) (h : impl_expText.f k a0_0 a0_1 a0_2 a0_3 a0_4 a0_5 l0_6 = some r) (hM : MaxLenIn w := by first | assumption | exact MaxLenIn.drewN (by assumption) _ | exact MaxLenIn.later (by assumption) (by assumption) | exact MaxLenIn.drewN (MaxLenIn.later (by assumption) (by assumption)) _ | exact MaxLenIn.later (by assumption) ⟨by repeat (first | exact Aside0.out (by assumption) | apply below_alloc | apply pw_below_drewN | apply below_drew1 | refine below_set ?_ (Aside0.out (by assumption)))⟩),
  Calls Tryd.prog 49 #[.agg #[.int .i64 a0_0, .int .i64 a0_1, .int .i64 a0_2, .int .i64 a0_3, .string a0_4, .string a0_5, .slice A0_6 l0_6.length c0_6]] w fun e w' => e = .returned (.string r) ∧ Below w.heap.size w w' := by
 induction k using Nat.strongRecOn with
 | _ k ih =>
 intro a0_0 a0_1 a0_2 a0_3 a0_4 a0_5 A0_6 c0_6 l0_6 r w hr0_6 hc0_6 h hM
 cases k with
 | zero => exact absurd h (by simp [impl_expText.f])
 | succ k =>
 simp only [impl_expText.f] at h
 have hu32 := Tryd.underlying32
 have hu29 := Tryd.underlying29
 have HR0_6 := Aside0.mk hr0_6
 have HC0_6 := Aside0.mk hc0_6
 clear hr0_6 hc0_6
 have HB := Aside0.mk (Below.refl w.heap.size w)
 have H : (if a0_0 = 0 then ((impl_DecText.f a0_1).bind fun t185 => (if 1 + t185.size ≤ 9223372036854775807 then (some ((⟨#[99]⟩ : ByteArray) ++ t185)) else (none))) else (if a0_0 = 1 then ((impl_ValueText.f a0_2 a0_3 a0_4).bind fun t186 => (some t186)) else (if a0_0 = 2 then (if 0 < (l0_6.length : Int) then ((impl_expText.f k ((rd_T32 l0_6 0).f0) ((rd_T32 l0_6 0).f1) ((rd_T32 l0_6 0).f2.f0) ((rd_T32 l0_6 0).f2.f1) ((rd_T32 l0_6 0).f2.f2) ((rd_T32 l0_6 0).f3) ((rd_T32 l0_6 0).f4)).bind fun t188 => (if 1 + t188.size ≤ 9223372036854775807 then (if ((⟨#[40]⟩ : ByteArray) ++ t188).size + 1 ≤ 9223372036854775807 then (if (((⟨#[40]⟩ : ByteArray) ++ t188) ++ (⟨#[32]⟩ : ByteArray)).size + a0_5.size ≤ 9223372036854775807 then (if ((((⟨#[40]⟩ : ByteArray) ++ t188) ++ (⟨#[32]⟩ : ByteArray)) ++ a0_5).size + 1 ≤ 9223372036854775807 then (if 1 < (l0_6.length : Int) then ((impl_expText.f k ((rd_T32 l0_6 1).f0) ((rd_T32 l0_6 1).f1) ((rd_T32 l0_6 1).f2.f0) ((rd_T32 l0_6 1).f2.f1) ((rd_T32 l0_6 1).f2.f2) ((rd_T32 l0_6 1).f3) ((rd_T32 l0_6 1).f4)).bind fun t190 => (if (((((⟨#[40]⟩ : ByteArray) ++ t188) ++ (⟨#[32]⟩ : ByteArray)) ++ a0_5) ++ (⟨#[32]⟩ : ByteArray)).size + t190.size ≤ 9223372036854775807 then (if ((((((⟨#[40]⟩ : ByteArray) ++ t188) ++ (⟨#[32]⟩ : ByteArray)) ++ a0_5) ++ (⟨#[32]⟩ : ByteArray)) ++ t190).size + 1 ≤ 9223372036854775807 then (some (((((((⟨#[40]⟩ : ByteArray) ++ t188) ++ (⟨#[32]⟩ : ByteArray)) ++ a0_5) ++ (⟨#[32]⟩ : ByteArray)) ++ t190) ++ (⟨#[41]⟩ : ByteArray))) else (none)) else (none))) else (none)) else (none)) else (none)) else (none)) else (none))) else (none)) else (if a0_0 = 3 then (if 0 < (l0_6.length : Int) then ((impl_expText.f k ((rd_T32 l0_6 0).f0) ((rd_T32 l0_6 0).f1) ((rd_T32 l0_6 0).f2.f0) ((rd_T32 l0_6 0).f2.f1) ((rd_T32 l0_6 0).f2.f2) ((rd_T32 l0_6 0).f3) ((rd_T32 l0_6 0).f4)).bind fun t192 => (if 4 + t192.size ≤ 9223372036854775807 then (if ((⟨#[110, 111, 116, 40]⟩ : ByteArray) ++ t192).size + 1 ≤ 9223372036854775807 then (some (((⟨#[110, 111, 116, 40]⟩ : ByteArray) ++ t192) ++ (⟨#[41]⟩ : ByteArray))) else (none)) else (none))) else (none)) else (if 0 < (l0_6.length : Int) then ((impl_expText.f k ((rd_T32 l0_6 0).f0) ((rd_T32 l0_6 0).f1) ((rd_T32 l0_6 0).f2.f0) ((rd_T32 l0_6 0).f2.f1) ((rd_T32 l0_6 0).f2.f2) ((rd_T32 l0_6 0).f3) ((rd_T32 l0_6 0).f4)).bind fun t194 => (if 7 + t194.size ≤ 9223372036854775807 then (if ((⟨#[105, 115, 110, 117, 108, 108, 40]⟩ : ByteArray) ++ t194).size + 1 ≤ 9223372036854775807 then (some (((⟨#[105, 115, 110, 117, 108, 108, 40]⟩ : ByteArray) ++ t194) ++ (⟨#[41]⟩ : ByteArray))) else (none)) else (none))) else (none)))))) = some r := h
 clear h
 by_cases c2 : a0_0 = 0
 ·rw [if_pos c2] at H
  have c2b0 : (a0_0 == 0) = true := beq_iff_eq.mpr c2
  have c2b1 : (a0_0 != 0) = false := bne_eq_false_iff_eq.mpr c2
  clear c2
  replace H := Option.bind_eq_some_iff.mp H
  obtain ⟨t185, A30, H⟩ := H
  replace H : (if 1 + t185.size ≤ 9223372036854775807 then (some ((⟨#[99]⟩ : ByteArray) ++ t185)) else (none)) = some r := H
  have A3 := Aside0.mk A30
  clear A30
  by_cases c4 : 1 + t185.size ≤ 9223372036854775807
  ·rw [if_pos c4] at H
   have c4b0 := eq_true c4
   have c4b1 : decide (1 + t185.size ≤ 9223372036854775807) = true := decide_eq_true c4
   try have c4b2 : (9223372036854775807 < 1 + t185.size) = False := eq_false (Nat.not_lt.2 c4)
   obtain rfl := Option.some.inj H
   go_enter Tryd.func49, Tryd.ntmps49
   go_wp2_with (first | ((with_reducible refine gate_dst (N := 1) rfl ?_); refine bx_ 1 #[.int .i64 a0_0, .int .i64 a0_1, .int .i64 a0_2, .int .i64 a0_3, .string a0_4, .string a0_5, .slice A0_6 l0_6.length c0_6] 32 ?_; intro gb184 hg w5 hbox hb; have BK184 := Aside0.mk (hbox); have GW184 := gw_ hg; have GE184 := gw_ hg; replace HB := bs_ hb; clear hb hbox hg; obtain ⟨hcz6_0, hcz6_1, hcz6_2, hcz6_3, hcz6_4, hcz6_5, hcz6_6, hfz6_0, hfz6_1, hfz6_2, hfz6_3, hfz6_4, hfz6_5, hfz6_6⟩ := b7_ BK184) | ((with_reducible refine gate_callee (f := 30) rfl ?_); refine gsL_ (some 9) Tryd.func30 #[.int .i64 a0_1] ?_; (with_reducible refine (impl_DecText.calls a0_1 t185 _ A3.out).mono ?_); rintro e w7 ⟨rfl, hb⟩; refine ⟨_, rfl, ?_⟩; replace BK184 := bkb_ BK184 hb; replace HB := bs_ hb; (try clear hb); (try clear hb2); (try clear hk); (try clear hi)))
   go_ret
   exact ⟨er_, bb_⟩
  ·rw [if_neg c4] at H
   exact absurd H (by simp)
 ·rw [if_neg c2] at H
  have c2b0 : (a0_0 == 0) = false := beq_eq_false_iff_ne.mpr c2
  have c2b1 : (a0_0 != 0) = true := bne_iff_ne.mpr c2
  by_cases c8 : a0_0 = 1
  ·rw [if_pos c8] at H
   have c8b0 : (a0_0 == 1) = true := beq_iff_eq.mpr c8
   have c8b1 : (a0_0 != 1) = false := bne_eq_false_iff_eq.mpr c8
   clear c8
   replace H := Option.bind_eq_some_iff.mp H
   obtain ⟨t186, A90, H⟩ := H
   replace H : (some t186) = some r := H
   have A9 := Aside0.mk A90
   clear A90
   obtain rfl := Option.some.inj H
   go_enter Tryd.func49, Tryd.ntmps49
   go_wp2_with (first | ((with_reducible refine gate_dst (N := 1) rfl ?_); refine bx_ 1 #[.int .i64 a0_0, .int .i64 a0_1, .int .i64 a0_2, .int .i64 a0_3, .string a0_4, .string a0_5, .slice A0_6 l0_6.length c0_6] 32 ?_; intro gb184 hg w10 hbox hb; have BK184 := Aside0.mk (hbox); have GW184 := gw_ hg; have GE184 := gw_ hg; replace HB := bs_ hb; clear hb hbox hg; obtain ⟨hcz11_0, hcz11_1, hcz11_2, hcz11_3, hcz11_4, hcz11_5, hcz11_6, hfz11_0, hfz11_1, hfz11_2, hfz11_3, hfz11_4, hfz11_5, hfz11_6⟩ := b7_ BK184) | ((with_reducible refine gate_callee (f := 26) rfl ?_); refine gsL_ (some 15) Tryd.func26 #[.agg #[.int .i64 a0_2, .int .i64 a0_3, .string a0_4]] ?_; (with_reducible refine (impl_ValueText.calls a0_2 a0_3 a0_4 t186 _ A9.out).mono ?_); rintro e w12 ⟨rfl, hb⟩; refine ⟨_, rfl, ?_⟩; replace BK184 := bkb_ BK184 hb; replace HB := bs_ hb; (try clear hb); (try clear hb2); (try clear hk); (try clear hi)))
   go_ret
   exact ⟨er_, bb_⟩
  ·rw [if_neg c8] at H
   have c8b0 : (a0_0 == 1) = false := beq_eq_false_iff_ne.mpr c8
   have c8b1 : (a0_0 != 1) = true := bne_iff_ne.mpr c8
   by_cases c13 : a0_0 = 2
   ·rw [if_pos c13] at H
    have c13b0 : (a0_0 == 2) = true := beq_iff_eq.mpr c13
    have c13b1 : (a0_0 != 2) = false := bne_eq_false_iff_eq.mpr c13
    clear c13
    by_cases c14 : 0 < (l0_6.length : Int)
    ·rw [if_pos c14] at H
     have c14b0 : decide (0 < (l0_6.length : Int)) = true := decide_eq_true c14
     have c14b1 : decide (0 < l0_6.length) = true := decide_eq_true (by omega)
     clear c14
     replace H := Option.bind_eq_some_iff.mp H
     obtain ⟨t188, A150, H⟩ := H
     replace H : (if 1 + t188.size ≤ 9223372036854775807 then (if ((⟨#[40]⟩ : ByteArray) ++ t188).size + 1 ≤ 9223372036854775807 then (if (((⟨#[40]⟩ : ByteArray) ++ t188) ++ (⟨#[32]⟩ : ByteArray)).size + a0_5.size ≤ 9223372036854775807 then (if ((((⟨#[40]⟩ : ByteArray) ++ t188) ++ (⟨#[32]⟩ : ByteArray)) ++ a0_5).size + 1 ≤ 9223372036854775807 then (if 1 < (l0_6.length : Int) then ((impl_expText.f k ((rd_T32 l0_6 1).f0) ((rd_T32 l0_6 1).f1) ((rd_T32 l0_6 1).f2.f0) ((rd_T32 l0_6 1).f2.f1) ((rd_T32 l0_6 1).f2.f2) ((rd_T32 l0_6 1).f3) ((rd_T32 l0_6 1).f4)).bind fun t190 => (if (((((⟨#[40]⟩ : ByteArray) ++ t188) ++ (⟨#[32]⟩ : ByteArray)) ++ a0_5) ++ (⟨#[32]⟩ : ByteArray)).size + t190.size ≤ 9223372036854775807 then (if ((((((⟨#[40]⟩ : ByteArray) ++ t188) ++ (⟨#[32]⟩ : ByteArray)) ++ a0_5) ++ (⟨#[32]⟩ : ByteArray)) ++ t190).size + 1 ≤ 9223372036854775807 then (some (((((((⟨#[40]⟩ : ByteArray) ++ t188) ++ (⟨#[32]⟩ : ByteArray)) ++ a0_5) ++ (⟨#[32]⟩ : ByteArray)) ++ t190) ++ (⟨#[41]⟩ : ByteArray))) else (none)) else (none))) else (none)) else (none)) else (none)) else (none)) else (none)) = some r := H
     have A15 := Aside0.mk A150
     clear A150
     by_cases c16 : 1 + t188.size ≤ 9223372036854775807
     ·rw [if_pos c16] at H
      have c16b0 := eq_true c16
      have c16b1 : decide (1 + t188.size ≤ 9223372036854775807) = true := decide_eq_true c16
      try have c16b2 : (9223372036854775807 < 1 + t188.size) = False := eq_false (Nat.not_lt.2 c16)
      by_cases c17 : ((⟨#[40]⟩ : ByteArray) ++ t188).size + 1 ≤ 9223372036854775807
      ·rw [if_pos c17] at H
       have c17b0 := eq_true c17
       have c17b1 : decide (((⟨#[40]⟩ : ByteArray) ++ t188).size + 1 ≤ 9223372036854775807) = true := decide_eq_true c17
       try have c17b2 : (9223372036854775807 < ((⟨#[40]⟩ : ByteArray) ++ t188).size + 1) = False := eq_false (Nat.not_lt.2 c17)
       (try (have c17b0z := c17b0; simp only [ByteArray.size_append] at c17b0z))
       (try (have c17b1z := c17b1; simp only [ByteArray.size_append] at c17b1z))
       (try (have c17b2z := c17b2; simp only [ByteArray.size_append] at c17b2z))
       (try (have c17b2y : (9223372036854775807 < 1 + t188.size + 1) = False := by (apply eq_false; have hq_ := c17; simp only [ByteArray.size_append, ByteArray.size_extract] at hq_; have hl0_ : (⟨#[40]⟩ : ByteArray).size = 1 := rfl; omega)))
       by_cases c18 : (((⟨#[40]⟩ : ByteArray) ++ t188) ++ (⟨#[32]⟩ : ByteArray)).size + a0_5.size ≤ 9223372036854775807
       ·rw [if_pos c18] at H
        have c18b0 := eq_true c18
        have c18b1 : decide ((((⟨#[40]⟩ : ByteArray) ++ t188) ++ (⟨#[32]⟩ : ByteArray)).size + a0_5.size ≤ 9223372036854775807) = true := decide_eq_true c18
        try have c18b2 : (9223372036854775807 < (((⟨#[40]⟩ : ByteArray) ++ t188) ++ (⟨#[32]⟩ : ByteArray)).size + a0_5.size) = False := eq_false (Nat.not_lt.2 c18)
        (try (have c18b0z := c18b0; simp only [ByteArray.size_append] at c18b0z))
        (try (have c18b1z := c18b1; simp only [ByteArray.size_append] at c18b1z))
        (try (have c18b2z := c18b2; simp only [ByteArray.size_append] at c18b2z))
        (try (have c18b2y : (9223372036854775807 < 1 + t188.size + 1 + a0_5.size) = False := by (apply eq_false; have hq_ := c18; simp only [ByteArray.size_append, ByteArray.size_extract] at hq_; have hl0_ : (⟨#[40]⟩ : ByteArray).size = 1 := rfl; have hl1_ : (⟨#[32]⟩ : ByteArray).size = 1 := rfl; omega)))
        by_cases c19 : ((((⟨#[40]⟩ : ByteArray) ++ t188) ++ (⟨#[32]⟩ : ByteArray)) ++ a0_5).size + 1 ≤ 9223372036854775807
        ·rw [if_pos c19] at H
         have c19b0 := eq_true c19
         have c19b1 : decide (((((⟨#[40]⟩ : ByteArray) ++ t188) ++ (⟨#[32]⟩ : ByteArray)) ++ a0_5).size + 1 ≤ 9223372036854775807) = true := decide_eq_true c19
         try have c19b2 : (9223372036854775807 < ((((⟨#[40]⟩ : ByteArray) ++ t188) ++ (⟨#[32]⟩ : ByteArray)) ++ a0_5).size + 1) = False := eq_false (Nat.not_lt.2 c19)
         (try (have c19b0z := c19b0; simp only [ByteArray.size_append] at c19b0z))
         (try (have c19b1z := c19b1; simp only [ByteArray.size_append] at c19b1z))
         (try (have c19b2z := c19b2; simp only [ByteArray.size_append] at c19b2z))
         (try (have c19b2y : (9223372036854775807 < 1 + t188.size + 1 + a0_5.size + 1) = False := by (apply eq_false; have hq_ := c19; simp only [ByteArray.size_append, ByteArray.size_extract] at hq_; have hl0_ : (⟨#[40]⟩ : ByteArray).size = 1 := rfl; have hl1_ : (⟨#[32]⟩ : ByteArray).size = 1 := rfl; omega)))
         by_cases c20 : 1 < (l0_6.length : Int)
         ·rw [if_pos c20] at H
          have c20b0 : decide (1 < (l0_6.length : Int)) = true := decide_eq_true c20
          have c20b1 : decide (1 < l0_6.length) = true := decide_eq_true (by omega)
          clear c20
          replace H := Option.bind_eq_some_iff.mp H
          obtain ⟨t190, A210, H⟩ := H
          replace H : (if (((((⟨#[40]⟩ : ByteArray) ++ t188) ++ (⟨#[32]⟩ : ByteArray)) ++ a0_5) ++ (⟨#[32]⟩ : ByteArray)).size + t190.size ≤ 9223372036854775807 then (if ((((((⟨#[40]⟩ : ByteArray) ++ t188) ++ (⟨#[32]⟩ : ByteArray)) ++ a0_5) ++ (⟨#[32]⟩ : ByteArray)) ++ t190).size + 1 ≤ 9223372036854775807 then (some (((((((⟨#[40]⟩ : ByteArray) ++ t188) ++ (⟨#[32]⟩ : ByteArray)) ++ a0_5) ++ (⟨#[32]⟩ : ByteArray)) ++ t190) ++ (⟨#[41]⟩ : ByteArray))) else (none)) else (none)) = some r := H
          have A21 := Aside0.mk A210
          clear A210
          by_cases c22 : (((((⟨#[40]⟩ : ByteArray) ++ t188) ++ (⟨#[32]⟩ : ByteArray)) ++ a0_5) ++ (⟨#[32]⟩ : ByteArray)).size + t190.size ≤ 9223372036854775807
          ·rw [if_pos c22] at H
           have c22b0 := eq_true c22
           have c22b1 : decide ((((((⟨#[40]⟩ : ByteArray) ++ t188) ++ (⟨#[32]⟩ : ByteArray)) ++ a0_5) ++ (⟨#[32]⟩ : ByteArray)).size + t190.size ≤ 9223372036854775807) = true := decide_eq_true c22
           try have c22b2 : (9223372036854775807 < (((((⟨#[40]⟩ : ByteArray) ++ t188) ++ (⟨#[32]⟩ : ByteArray)) ++ a0_5) ++ (⟨#[32]⟩ : ByteArray)).size + t190.size) = False := eq_false (Nat.not_lt.2 c22)
           (try (have c22b0z := c22b0; simp only [ByteArray.size_append] at c22b0z))
           (try (have c22b1z := c22b1; simp only [ByteArray.size_append] at c22b1z))
           (try (have c22b2z := c22b2; simp only [ByteArray.size_append] at c22b2z))
           (try (have c22b2y : (9223372036854775807 < 1 + t188.size + 1 + a0_5.size + 1 + t190.size) = False := by (apply eq_false; have hq_ := c22; simp only [ByteArray.size_append, ByteArray.size_extract] at hq_; have hl0_ : (⟨#[40]⟩ : ByteArray).size = 1 := rfl; have hl1_ : (⟨#[32]⟩ : ByteArray).size = 1 := rfl; omega)))
           by_cases c23 : ((((((⟨#[40]⟩ : ByteArray) ++ t188) ++ (⟨#[32]⟩ : ByteArray)) ++ a0_5) ++ (⟨#[32]⟩ : ByteArray)) ++ t190).size + 1 ≤ 9223372036854775807
           ·rw [if_pos c23] at H
            have c23b0 := eq_true c23
            have c23b1 : decide (((((((⟨#[40]⟩ : ByteArray) ++ t188) ++ (⟨#[32]⟩ : ByteArray)) ++ a0_5) ++ (⟨#[32]⟩ : ByteArray)) ++ t190).size + 1 ≤ 9223372036854775807) = true := decide_eq_true c23
            try have c23b2 : (9223372036854775807 < ((((((⟨#[40]⟩ : ByteArray) ++ t188) ++ (⟨#[32]⟩ : ByteArray)) ++ a0_5) ++ (⟨#[32]⟩ : ByteArray)) ++ t190).size + 1) = False := eq_false (Nat.not_lt.2 c23)
            (try (have c23b0z := c23b0; simp only [ByteArray.size_append] at c23b0z))
            (try (have c23b1z := c23b1; simp only [ByteArray.size_append] at c23b1z))
            (try (have c23b2z := c23b2; simp only [ByteArray.size_append] at c23b2z))
            (try (have c23b2y : (9223372036854775807 < 1 + t188.size + 1 + a0_5.size + 1 + t190.size + 1) = False := by (apply eq_false; have hq_ := c23; simp only [ByteArray.size_append, ByteArray.size_extract] at hq_; have hl0_ : (⟨#[40]⟩ : ByteArray).size = 1 := rfl; have hl1_ : (⟨#[32]⟩ : ByteArray).size = 1 := rfl; omega)))
            obtain rfl := Option.some.inj H
            go_enter Tryd.func49, Tryd.ntmps49
            try go_wp2_with (first | ((with_reducible refine gate_dst (N := 1) rfl ?_); refine bx_ 1 #[.int .i64 a0_0, .int .i64 a0_1, .int .i64 a0_2, .int .i64 a0_3, .string a0_4, .string a0_5, .slice A0_6 l0_6.length c0_6] 32 ?_; intro gb184 hg w24 hbox hb; have BK184 := Aside0.mk (hbox); have GW184 := gw_ hg; have GE184 := gw_ hg; replace HB := bs_ hb; clear hb hbox hg; obtain ⟨hcz25_0, hcz25_1, hcz25_2, hcz25_3, hcz25_4, hcz25_5, hcz25_6, hfz25_0, hfz25_1, hfz25_2, hfz25_3, hfz25_4, hfz25_5, hfz25_6⟩ := b7_ BK184))
            replace BK184 := Aside0.mk (blk_drew BK184.out)
            replace HB := Aside0.mk (below_drew1 HB.out)
            have p187 : 0 ≤ (0 : Int) := (by omega)
            have q187 : 0 < (l0_6.length : Int) := of_decide_eq_true (by first | (with_reducible assumption) | assumption)
            obtain ⟨ad187, A187_6, c187_6, e187, hx187_0, hx187_1, hx187_2, hx187_3, hx187_4, hx187_5, hx187_6, hl187_6, hi187_6⟩ := at_T32 HR0_6.out 0 p187 q187
            have hw187_6 := hx187_6
            (try rw [show ((0 : Int)).toNat = 0 from rfl] at hw187_6)
            (try rw [show 0 * 7 = 0 from rfl] at hw187_6)
            (try rw [Addr.add_zero'] at hw187_6)
            have hw187_5 := hx187_5
            (try rw [show ((0 : Int)).toNat = 0 from rfl] at hw187_5)
            (try rw [show 0 * 7 = 0 from rfl] at hw187_5)
            (try rw [Addr.add_zero'] at hw187_5)
            have hw187_4 := hx187_4
            (try rw [show ((0 : Int)).toNat = 0 from rfl] at hw187_4)
            (try rw [show 0 * 7 = 0 from rfl] at hw187_4)
            (try rw [Addr.add_zero'] at hw187_4)
            have hw187_3 := hx187_3
            (try rw [show ((0 : Int)).toNat = 0 from rfl] at hw187_3)
            (try rw [show 0 * 7 = 0 from rfl] at hw187_3)
            (try rw [Addr.add_zero'] at hw187_3)
            have hw187_2 := hx187_2
            (try rw [show ((0 : Int)).toNat = 0 from rfl] at hw187_2)
            (try rw [show 0 * 7 = 0 from rfl] at hw187_2)
            (try rw [Addr.add_zero'] at hw187_2)
            have hw187_1 := hx187_1
            (try rw [show ((0 : Int)).toNat = 0 from rfl] at hw187_1)
            (try rw [show 0 * 7 = 0 from rfl] at hw187_1)
            (try rw [Addr.add_zero'] at hw187_1)
            have hw187_0 := hx187_0
            (try rw [show ((0 : Int)).toNat = 0 from rfl] at hw187_0)
            (try rw [show 0 * 7 = 0 from rfl] at hw187_0)
            (try rw [Addr.add_zero'] at hw187_0)
            cases e187
            have qi187 : (0 < l0_6.length) = True := eq_true (by omega)
            (try rw [show ((0 : Int)).toNat = 0 from rfl] at hx187_0)
            (try rw [show 0 * 7 = 0 from rfl] at hx187_0)
            (try rw [Addr.add_zero'] at hx187_0)
            (try rw [show ((0 : Int)).toNat = 0 from rfl] at hx187_1)
            (try rw [show 0 * 7 = 0 from rfl] at hx187_1)
            (try rw [Addr.add_zero'] at hx187_1)
            (try rw [show ((0 : Int)).toNat = 0 from rfl] at hx187_2)
            (try rw [show 0 * 7 = 0 from rfl] at hx187_2)
            (try rw [Addr.add_zero'] at hx187_2)
            (try rw [show ((0 : Int)).toNat = 0 from rfl] at hx187_3)
            (try rw [show 0 * 7 = 0 from rfl] at hx187_3)
            (try rw [Addr.add_zero'] at hx187_3)
            (try rw [show ((0 : Int)).toNat = 0 from rfl] at hx187_4)
            (try rw [show 0 * 7 = 0 from rfl] at hx187_4)
            (try rw [Addr.add_zero'] at hx187_4)
            (try rw [show ((0 : Int)).toNat = 0 from rfl] at hx187_5)
            (try rw [show 0 * 7 = 0 from rfl] at hx187_5)
            (try rw [Addr.add_zero'] at hx187_5)
            (try rw [show ((0 : Int)).toNat = 0 from rfl] at hx187_6)
            (try rw [show 0 * 7 = 0 from rfl] at hx187_6)
            (try rw [Addr.add_zero'] at hx187_6)
            replace hx187_0 := hb_ HB hx187_0
            replace hx187_1 := hb_ HB hx187_1
            replace hx187_2 := hb_ HB hx187_2
            replace hx187_3 := hb_ HB hx187_3
            replace hx187_4 := hb_ HB hx187_4
            replace hx187_5 := hb_ HB hx187_5
            replace hx187_6 := hb_ HB hx187_6
            have HR187_6 := Aside0.mk hi187_6
            have HC187_6 := Aside0.mk hl187_6
            clear hi187_6 hl187_6
            replace p187 := eq_true p187
            replace q187 := eq_true q187
            have p189 : 0 ≤ (1 : Int) := (by omega)
            have q189 : 1 < (l0_6.length : Int) := of_decide_eq_true (by first | (with_reducible assumption) | assumption)
            obtain ⟨ad189, A189_6, c189_6, e189, hx189_0, hx189_1, hx189_2, hx189_3, hx189_4, hx189_5, hx189_6, hl189_6, hi189_6⟩ := at_T32 HR0_6.out 1 p189 q189
            have hw189_6 := hx189_6
            (try rw [show ((1 : Int)).toNat = 1 from rfl] at hw189_6)
            (try rw [show 1 * 7 = 7 from rfl] at hw189_6)
            (try simp only [Nat.reduceMul, Nat.reduceEqDiff, Go.Addr.add, ↓reduceIte] at hw189_6)
            have hw189_5 := hx189_5
            (try rw [show ((1 : Int)).toNat = 1 from rfl] at hw189_5)
            (try rw [show 1 * 7 = 7 from rfl] at hw189_5)
            (try simp only [Nat.reduceMul, Nat.reduceEqDiff, Go.Addr.add, ↓reduceIte] at hw189_5)
            have hw189_4 := hx189_4
            (try rw [show ((1 : Int)).toNat = 1 from rfl] at hw189_4)
            (try rw [show 1 * 7 = 7 from rfl] at hw189_4)
            (try simp only [Nat.reduceMul, Nat.reduceEqDiff, Go.Addr.add, ↓reduceIte] at hw189_4)
            have hw189_3 := hx189_3
            (try rw [show ((1 : Int)).toNat = 1 from rfl] at hw189_3)
            (try rw [show 1 * 7 = 7 from rfl] at hw189_3)
            (try simp only [Nat.reduceMul, Nat.reduceEqDiff, Go.Addr.add, ↓reduceIte] at hw189_3)
            have hw189_2 := hx189_2
            (try rw [show ((1 : Int)).toNat = 1 from rfl] at hw189_2)
            (try rw [show 1 * 7 = 7 from rfl] at hw189_2)
            (try simp only [Nat.reduceMul, Nat.reduceEqDiff, Go.Addr.add, ↓reduceIte] at hw189_2)
            have hw189_1 := hx189_1
            (try rw [show ((1 : Int)).toNat = 1 from rfl] at hw189_1)
            (try rw [show 1 * 7 = 7 from rfl] at hw189_1)
            (try simp only [Nat.reduceMul, Nat.reduceEqDiff, Go.Addr.add, ↓reduceIte] at hw189_1)
            have hw189_0 := hx189_0
            (try rw [show ((1 : Int)).toNat = 1 from rfl] at hw189_0)
            (try rw [show 1 * 7 = 7 from rfl] at hw189_0)
            (try simp only [Nat.reduceMul, Nat.reduceEqDiff, Go.Addr.add, ↓reduceIte] at hw189_0)
            obtain rfl : ad187 = ad189 := (by injection e189)
            (try simp only [show (1 : Int).toNat = 1 from rfl, Nat.reduceMul, Nat.reduceEqDiff, Go.Addr.add, ↓reduceIte] at hx189_0)
            (try simp only [show (1 : Int).toNat = 1 from rfl, Nat.reduceMul, Nat.reduceEqDiff, Go.Addr.add, ↓reduceIte] at hx189_1)
            (try simp only [show (1 : Int).toNat = 1 from rfl, Nat.reduceMul, Nat.reduceEqDiff, Go.Addr.add, ↓reduceIte] at hx189_2)
            (try simp only [show (1 : Int).toNat = 1 from rfl, Nat.reduceMul, Nat.reduceEqDiff, Go.Addr.add, ↓reduceIte] at hx189_3)
            (try simp only [show (1 : Int).toNat = 1 from rfl, Nat.reduceMul, Nat.reduceEqDiff, Go.Addr.add, ↓reduceIte] at hx189_4)
            (try simp only [show (1 : Int).toNat = 1 from rfl, Nat.reduceMul, Nat.reduceEqDiff, Go.Addr.add, ↓reduceIte] at hx189_5)
            (try simp only [show (1 : Int).toNat = 1 from rfl, Nat.reduceMul, Nat.reduceEqDiff, Go.Addr.add, ↓reduceIte] at hx189_6)
            have qi189 : (1 < l0_6.length) = True := eq_true (by omega)
            (try rw [show ((1 : Int)).toNat = 1 from rfl] at hx189_0)
            (try rw [show 1 * 7 = 7 from rfl] at hx189_0)
            (try rw [show ((1 : Int)).toNat = 1 from rfl] at hx189_1)
            (try rw [show 1 * 7 = 7 from rfl] at hx189_1)
            (try rw [show ((1 : Int)).toNat = 1 from rfl] at hx189_2)
            (try rw [show 1 * 7 = 7 from rfl] at hx189_2)
            (try rw [show ((1 : Int)).toNat = 1 from rfl] at hx189_3)
            (try rw [show 1 * 7 = 7 from rfl] at hx189_3)
            (try rw [show ((1 : Int)).toNat = 1 from rfl] at hx189_4)
            (try rw [show 1 * 7 = 7 from rfl] at hx189_4)
            (try rw [show ((1 : Int)).toNat = 1 from rfl] at hx189_5)
            (try rw [show 1 * 7 = 7 from rfl] at hx189_5)
            (try rw [show ((1 : Int)).toNat = 1 from rfl] at hx189_6)
            (try rw [show 1 * 7 = 7 from rfl] at hx189_6)
            replace hx189_0 := hb_ HB hx189_0
            replace hx189_1 := hb_ HB hx189_1
            replace hx189_2 := hb_ HB hx189_2
            replace hx189_3 := hb_ HB hx189_3
            replace hx189_4 := hb_ HB hx189_4
            replace hx189_5 := hb_ HB hx189_5
            replace hx189_6 := hb_ HB hx189_6
            have HR189_6 := Aside0.mk hi189_6
            have HC189_6 := Aside0.mk hl189_6
            clear hi189_6 hl189_6
            replace p189 := eq_true p189
            replace q189 := eq_true q189
            refine start_ (n := 19) (S := fun w' => w'.cell? ⟨gb184, 0, none⟩ = some (.int .i64 a0_0) ∧ w'.cell? ⟨gb184, 1, none⟩ = some (.int .i64 a0_1) ∧ w'.cell? ⟨gb184, 2, none⟩ = some (.int .i64 a0_2) ∧ w'.cell? ⟨gb184, 3, none⟩ = some (.int .i64 a0_3) ∧ w'.cell? ⟨gb184, 4, none⟩ = some (.string a0_4) ∧ w'.cell? ⟨gb184, 5, none⟩ = some (.string a0_5) ∧ w'.cell? ⟨gb184, 6, none⟩ = some (.slice (some ad187) l0_6.length c0_6) ∧ w'.cell? ad187 = some (.int .i64 ((rd_T32 l0_6 0).f0)) ∧ w'.cell? ⟨ad187.block, ad187.off + 1, none⟩ = some (.int .i64 ((rd_T32 l0_6 0).f1)) ∧ w'.cell? ⟨ad187.block, ad187.off + 2, none⟩ = some (.int .i64 ((rd_T32 l0_6 0).f2.f0)) ∧ w'.cell? ⟨ad187.block, ad187.off + 3, none⟩ = some (.int .i64 ((rd_T32 l0_6 0).f2.f1)) ∧ w'.cell? ⟨ad187.block, ad187.off + 4, none⟩ = some (.string ((rd_T32 l0_6 0).f2.f2)) ∧ w'.cell? ⟨ad187.block, ad187.off + 5, none⟩ = some (.string ((rd_T32 l0_6 0).f3)) ∧ w'.cell? ⟨ad187.block, ad187.off + 6, none⟩ = some (.slice A187_6 ((rd_T32 l0_6 0).f4).length c187_6) ∧ w'.cell? ⟨ad187.block, ad187.off + 7, none⟩ = some (.int .i64 ((rd_T32 l0_6 1).f0)) ∧ w'.cell? ⟨ad187.block, ad187.off + 7 + 1, none⟩ = some (.int .i64 ((rd_T32 l0_6 1).f1)) ∧ w'.cell? ⟨ad187.block, ad187.off + 7 + 2, none⟩ = some (.int .i64 ((rd_T32 l0_6 1).f2.f0)) ∧ w'.cell? ⟨ad187.block, ad187.off + 7 + 3, none⟩ = some (.int .i64 ((rd_T32 l0_6 1).f2.f1)) ∧ w'.cell? ⟨ad187.block, ad187.off + 7 + 4, none⟩ = some (.string ((rd_T32 l0_6 1).f2.f2)) ∧ w'.cell? ⟨ad187.block, ad187.off + 7 + 5, none⟩ = some (.string ((rd_T32 l0_6 1).f3)) ∧ w'.cell? ⟨ad187.block, ad187.off + 7 + 6, none⟩ = some (.slice A189_6 ((rd_T32 l0_6 1).f4).length c189_6)) (ds := []) (tf 0 19) (by kernel_rfl) rfl rfl ⟨bc_ BK184 0, bc_ BK184 1, bc_ BK184 2, bc_ BK184 3, bc_ BK184 4, bc_ BK184 5, bc_ BK184 6, (hb_ HB hw187_0), (hb_ HB hw187_1), (hb_ HB hw187_2), (hb_ HB hw187_3), (hb_ HB hw187_4), (hb_ HB hw187_5), (hb_ HB hw187_6), (hb_ HB hw189_0), (hb_ HB hw189_1), (hb_ HB hw189_2), (hb_ HB hw189_3), (hb_ HB hw189_4), (hb_ HB hw189_5), (hb_ HB hw189_6)⟩ (fun hHeld => ?_); refine with_tabW impl_expText.tab7 impl_expText.bits7 (fun HT_ HW_ => ?_)
            generalize w24.drew = w26 at BK184 HB HR187_6 HR189_6 hx187_0 hx187_1 hx187_2 hx187_3 hx187_4 hx187_5 hx187_6 hx189_0 hx189_1 hx189_2 hx189_3 hx189_4 hx189_5 hx189_6 hHeld ⊢
            refine pl_ ?_
            refine plx_ 7 #[true, false, false, false, false, false, false, true, false, false, false, false, false, false, false, false, false, false, false] ?_
            refine plx_ 11 #[true, false, false, false, false, false, false, true, false, false, false, true, false, false, false, false, false, false, false] ?_
            refine tlx_ 1 #[true, true, false, false, false, false, false, true, false, false, false, true, false, false, false, false, false, false, false] ?_
            refine plx_ 2 #[true, true, true, false, false, false, false, true, false, false, false, true, false, false, false, false, false, false, false] ?_
            refine tlx_ 3 #[true, true, true, true, false, false, false, true, false, false, false, true, false, false, false, false, false, false, false] ?_
            refine tlx_ 8 #[true, true, true, true, false, false, false, true, true, false, false, true, false, false, false, false, false, false, false] ?_
            refine tlx_ 12 #[true, true, true, true, false, false, false, true, true, false, false, true, true, false, false, false, false, false, false] ?_
            refine plx_ 13 #[true, true, true, true, false, false, false, true, true, false, false, true, true, true, false, false, false, false, false] ?_
            refine tlx_ 14 #[true, true, true, true, false, false, false, true, true, false, false, true, true, true, true, false, false, false, false] ?_
            refine one_ (i := 4) (N := some 22) #[true, true, true, true, true, false, false, true, true, false, false, true, true, true, true, false, false, false, false] rfl rfl (one_of HT_.out (by kernel_rfl)) (by decide) (fun K hK => ?_)
            refine gs_ Tryd.func49 #[.agg #[.int .i64 ((rd_T32 l0_6 0).f0), .int .i64 ((rd_T32 l0_6 0).f1), .int .i64 ((rd_T32 l0_6 0).f2.f0), .int .i64 ((rd_T32 l0_6 0).f2.f1), .string ((rd_T32 l0_6 0).f2.f2), .string ((rd_T32 l0_6 0).f3), .slice A187_6 ((rd_T32 l0_6 0).f4).length c187_6]] ?_
            with_reducible refine (ih k (by omega) ((rd_T32 l0_6 0).f0) ((rd_T32 l0_6 0).f1) ((rd_T32 l0_6 0).f2.f0) ((rd_T32 l0_6 0).f2.f1) ((rd_T32 l0_6 0).f2.f2) ((rd_T32 l0_6 0).f3) _ _ ((rd_T32 l0_6 0).f4) t188 _ ?side1 ?side2 A15.out).mono ?_
            (case side1 => exact ck_ (Kd.C_below HR187_6.out HB.out))
            (case side2 => exact HC187_6.out)
            rintro e w27 ⟨rfl, hb⟩
            refine ⟨_, rfl, ?_⟩
            replace BK184 := bkb_ BK184 hb
            replace HB := bs_ hb
            (try clear hb)
            (try clear hb2)
            (try clear hk)
            (try clear hi)
            refine hK.out _ _ ⟨bc_ BK184 0, bc_ BK184 1, bc_ BK184 2, bc_ BK184 3, bc_ BK184 4, bc_ BK184 5, bc_ BK184 6, (hb_ HB hw187_0), (hb_ HB hw187_1), (hb_ HB hw187_2), (hb_ HB hw187_3), (hb_ HB hw187_4), (hb_ HB hw187_5), (hb_ HB hw187_6), (hb_ HB hw189_0), (hb_ HB hw189_1), (hb_ HB hw189_2), (hb_ HB hw189_3), (hb_ HB hw189_4), (hb_ HB hw189_5), (hb_ HB hw189_6)⟩ (fun hHeld => ?_)
            clear hK K
            refine nm_ ?_
            refine plx_ 5 #[true, true, true, true, true, true, false, true, true, false, false, true, true, true, true, false, false, false, false] ?_
            refine plx_ 6 #[true, true, true, true, true, true, true, true, true, false, false, true, true, true, true, false, false, false, false] ?_
            refine plx_ 9 #[true, true, true, true, true, true, true, true, true, true, false, true, true, true, true, false, false, false, false] ?_
            refine plx_ 10 (tf 15 4) ?_
            refine one_ (i := 15) (N := some 33) (tf 16 3) rfl rfl (one_of HT_.out (by kernel_rfl)) (by decide) (fun K hK => ?_)
            refine gs_ Tryd.func49 #[.agg #[.int .i64 ((rd_T32 l0_6 1).f0), .int .i64 ((rd_T32 l0_6 1).f1), .int .i64 ((rd_T32 l0_6 1).f2.f0), .int .i64 ((rd_T32 l0_6 1).f2.f1), .string ((rd_T32 l0_6 1).f2.f2), .string ((rd_T32 l0_6 1).f3), .slice A189_6 ((rd_T32 l0_6 1).f4).length c189_6]] ?_
            with_reducible refine (ih k (by omega) ((rd_T32 l0_6 1).f0) ((rd_T32 l0_6 1).f1) ((rd_T32 l0_6 1).f2.f0) ((rd_T32 l0_6 1).f2.f1) ((rd_T32 l0_6 1).f2.f2) ((rd_T32 l0_6 1).f3) _ _ ((rd_T32 l0_6 1).f4) t190 _ ?side1 ?side2 A21.out).mono ?_
            (case side1 => exact ck_ (Kd.C_below HR189_6.out HB.out))
            (case side2 => exact HC189_6.out)
            rintro e w28 ⟨rfl, hb⟩
            refine ⟨_, rfl, ?_⟩
            replace BK184 := bkb_ BK184 hb
            replace HB := bs_ hb
            (try clear hb)
            (try clear hb2)
            (try clear hk)
            (try clear hi)
            refine hK.out _ _ ⟨bc_ BK184 0, bc_ BK184 1, bc_ BK184 2, bc_ BK184 3, bc_ BK184 4, bc_ BK184 5, bc_ BK184 6, (hb_ HB hw187_0), (hb_ HB hw187_1), (hb_ HB hw187_2), (hb_ HB hw187_3), (hb_ HB hw187_4), (hb_ HB hw187_5), (hb_ HB hw187_6), (hb_ HB hw189_0), (hb_ HB hw189_1), (hb_ HB hw189_2), (hb_ HB hw189_3), (hb_ HB hw189_4), (hb_ HB hw189_5), (hb_ HB hw189_6)⟩ (fun hHeld => ?_)
            clear hK K
            refine nm_ ?_
            refine plx_ 16 (tf 17 2) ?_
            iterate 2 (refine pl_ ?_)
            refine done_ (done_of HT_.out (by kernel_rfl)) ?_
            try go_wp2
            go_ret
            exact ⟨er_, bb_⟩
           ·rw [if_neg c23] at H
            exact absurd H (by simp)
          ·rw [if_neg c22] at H
           exact absurd H (by simp)
         ·rw [if_neg c20] at H
          exact absurd H (by simp)
        ·rw [if_neg c19] at H
         exact absurd H (by simp)
       ·rw [if_neg c18] at H
        exact absurd H (by simp)
      ·rw [if_neg c17] at H
       exact absurd H (by simp)
     ·rw [if_neg c16] at H
      exact absurd H (by simp)
    ·rw [if_neg c14] at H
     exact absurd H (by simp)
   ·rw [if_neg c13] at H
    have c13b0 : (a0_0 == 2) = false := beq_eq_false_iff_ne.mpr c13
    have c13b1 : (a0_0 != 2) = true := bne_iff_ne.mpr c13
    by_cases c29 : a0_0 = 3
    ·rw [if_pos c29] at H
     have c29b0 : (a0_0 == 3) = true := beq_iff_eq.mpr c29
     have c29b1 : (a0_0 != 3) = false := bne_eq_false_iff_eq.mpr c29
     clear c29
     by_cases c30 : 0 < (l0_6.length : Int)
     ·rw [if_pos c30] at H
      have c30b0 : decide (0 < (l0_6.length : Int)) = true := decide_eq_true c30
      have c30b1 : decide (0 < l0_6.length) = true := decide_eq_true (by omega)
      clear c30
      replace H := Option.bind_eq_some_iff.mp H
      obtain ⟨t192, A310, H⟩ := H
      replace H : (if 4 + t192.size ≤ 9223372036854775807 then (if ((⟨#[110, 111, 116, 40]⟩ : ByteArray) ++ t192).size + 1 ≤ 9223372036854775807 then (some (((⟨#[110, 111, 116, 40]⟩ : ByteArray) ++ t192) ++ (⟨#[41]⟩ : ByteArray))) else (none)) else (none)) = some r := H
      have A31 := Aside0.mk A310
      clear A310
      by_cases c32 : 4 + t192.size ≤ 9223372036854775807
      ·rw [if_pos c32] at H
       have c32b0 := eq_true c32
       have c32b1 : decide (4 + t192.size ≤ 9223372036854775807) = true := decide_eq_true c32
       try have c32b2 : (9223372036854775807 < 4 + t192.size) = False := eq_false (Nat.not_lt.2 c32)
       by_cases c33 : ((⟨#[110, 111, 116, 40]⟩ : ByteArray) ++ t192).size + 1 ≤ 9223372036854775807
       ·rw [if_pos c33] at H
        have c33b0 := eq_true c33
        have c33b1 : decide (((⟨#[110, 111, 116, 40]⟩ : ByteArray) ++ t192).size + 1 ≤ 9223372036854775807) = true := decide_eq_true c33
        try have c33b2 : (9223372036854775807 < ((⟨#[110, 111, 116, 40]⟩ : ByteArray) ++ t192).size + 1) = False := eq_false (Nat.not_lt.2 c33)
        (try (have c33b0z := c33b0; simp only [ByteArray.size_append] at c33b0z))
        (try (have c33b1z := c33b1; simp only [ByteArray.size_append] at c33b1z))
        (try (have c33b2z := c33b2; simp only [ByteArray.size_append] at c33b2z))
        (try (have c33b2y : (9223372036854775807 < 4 + t192.size + 1) = False := by (apply eq_false; have hq_ := c33; simp only [ByteArray.size_append, ByteArray.size_extract] at hq_; have hl0_ : (⟨#[110, 111, 116, 40]⟩ : ByteArray).size = 4 := rfl; omega)))
        obtain rfl := Option.some.inj H
        go_enter Tryd.func49, Tryd.ntmps49
        go_wp2_with (first | ((with_reducible refine gate_dst (N := 1) rfl ?_); refine bx_ 1 #[.int .i64 a0_0, .int .i64 a0_1, .int .i64 a0_2, .int .i64 a0_3, .string a0_4, .string a0_5, .slice A0_6 l0_6.length c0_6] 32 ?_; intro gb184 hg w34 hbox hb; have BK184 := Aside0.mk (hbox); have GW184 := gw_ hg; have GE184 := gw_ hg; replace HB := bs_ hb; clear hb hbox hg; obtain ⟨hcz35_0, hcz35_1, hcz35_2, hcz35_3, hcz35_4, hcz35_5, hcz35_6, hfz35_0, hfz35_1, hfz35_2, hfz35_3, hfz35_4, hfz35_5, hfz35_6⟩ := b7_ BK184; have p191 : 0 ≤ (0 : Int) := (by omega); have q191 : 0 < (l0_6.length : Int) := of_decide_eq_true (by first | (with_reducible assumption) | assumption); obtain ⟨ad191, A191_6, c191_6, e191, hx191_0, hx191_1, hx191_2, hx191_3, hx191_4, hx191_5, hx191_6, hl191_6, hi191_6⟩ := at_T32 HR0_6.out 0 p191 q191; cases e191; have qi191 : (0 < l0_6.length) = True := eq_true (by omega); (try rw [show ((0 : Int)).toNat = 0 from rfl] at hx191_0); (try rw [show 0 * 7 = 0 from rfl] at hx191_0); (try rw [Addr.add_zero'] at hx191_0); (try rw [show ((0 : Int)).toNat = 0 from rfl] at hx191_1); (try rw [show 0 * 7 = 0 from rfl] at hx191_1); (try rw [Addr.add_zero'] at hx191_1); (try rw [show ((0 : Int)).toNat = 0 from rfl] at hx191_2); (try rw [show 0 * 7 = 0 from rfl] at hx191_2); (try rw [Addr.add_zero'] at hx191_2); (try rw [show ((0 : Int)).toNat = 0 from rfl] at hx191_3); (try rw [show 0 * 7 = 0 from rfl] at hx191_3); (try rw [Addr.add_zero'] at hx191_3); (try rw [show ((0 : Int)).toNat = 0 from rfl] at hx191_4); (try rw [show 0 * 7 = 0 from rfl] at hx191_4); (try rw [Addr.add_zero'] at hx191_4); (try rw [show ((0 : Int)).toNat = 0 from rfl] at hx191_5); (try rw [show 0 * 7 = 0 from rfl] at hx191_5); (try rw [Addr.add_zero'] at hx191_5); (try rw [show ((0 : Int)).toNat = 0 from rfl] at hx191_6); (try rw [show 0 * 7 = 0 from rfl] at hx191_6); (try rw [Addr.add_zero'] at hx191_6); replace hx191_0 := hb_ HB hx191_0; replace hx191_1 := hb_ HB hx191_1; replace hx191_2 := hb_ HB hx191_2; replace hx191_3 := hb_ HB hx191_3; replace hx191_4 := hb_ HB hx191_4; replace hx191_5 := hb_ HB hx191_5; replace hx191_6 := hb_ HB hx191_6; have HR191_6 := Aside0.mk hi191_6; have HC191_6 := Aside0.mk hl191_6; clear hi191_6 hl191_6; replace p191 := eq_true p191; replace q191 := eq_true q191) | ((with_reducible refine gate_callee (f := 49) rfl ?_); refine gsL_ (some 42) Tryd.func49 #[.agg #[.int .i64 ((rd_T32 l0_6 0).f0), .int .i64 ((rd_T32 l0_6 0).f1), .int .i64 ((rd_T32 l0_6 0).f2.f0), .int .i64 ((rd_T32 l0_6 0).f2.f1), .string ((rd_T32 l0_6 0).f2.f2), .string ((rd_T32 l0_6 0).f3), .slice A191_6 ((rd_T32 l0_6 0).f4).length c191_6]] ?_; (with_reducible refine (ih k (by omega) ((rd_T32 l0_6 0).f0) ((rd_T32 l0_6 0).f1) ((rd_T32 l0_6 0).f2.f0) ((rd_T32 l0_6 0).f2.f1) ((rd_T32 l0_6 0).f2.f2) ((rd_T32 l0_6 0).f3) _ _ ((rd_T32 l0_6 0).f4) t192 _ ?side1 ?side2 A31.out).mono ?_); (case side1 => exact ck_ (Kd.C_below HR191_6.out HB.out)); (case side2 => exact HC191_6.out); rintro e w36 ⟨rfl, hb⟩; refine ⟨_, rfl, ?_⟩; replace BK184 := bkb_ BK184 hb; replace HB := bs_ hb; (try clear hb); (try clear hb2); (try clear hk); (try clear hi)))
        go_ret
        exact ⟨er_, bb_⟩
       ·rw [if_neg c33] at H
        exact absurd H (by simp)
      ·rw [if_neg c32] at H
       exact absurd H (by simp)
     ·rw [if_neg c30] at H
      exact absurd H (by simp)
    ·rw [if_neg c29] at H
     have c29b0 : (a0_0 == 3) = false := beq_eq_false_iff_ne.mpr c29
     have c29b1 : (a0_0 != 3) = true := bne_iff_ne.mpr c29
     by_cases c37 : 0 < (l0_6.length : Int)
     ·rw [if_pos c37] at H
      have c37b0 : decide (0 < (l0_6.length : Int)) = true := decide_eq_true c37
      have c37b1 : decide (0 < l0_6.length) = true := decide_eq_true (by omega)
      clear c37
      replace H := Option.bind_eq_some_iff.mp H
      obtain ⟨t194, A380, H⟩ := H
      replace H : (if 7 + t194.size ≤ 9223372036854775807 then (if ((⟨#[105, 115, 110, 117, 108, 108, 40]⟩ : ByteArray) ++ t194).size + 1 ≤ 9223372036854775807 then (some (((⟨#[105, 115, 110, 117, 108, 108, 40]⟩ : ByteArray) ++ t194) ++ (⟨#[41]⟩ : ByteArray))) else (none)) else (none)) = some r := H
      have A38 := Aside0.mk A380
      clear A380
      by_cases c39 : 7 + t194.size ≤ 9223372036854775807
      ·rw [if_pos c39] at H
       have c39b0 := eq_true c39
       have c39b1 : decide (7 + t194.size ≤ 9223372036854775807) = true := decide_eq_true c39
       try have c39b2 : (9223372036854775807 < 7 + t194.size) = False := eq_false (Nat.not_lt.2 c39)
       by_cases c40 : ((⟨#[105, 115, 110, 117, 108, 108, 40]⟩ : ByteArray) ++ t194).size + 1 ≤ 9223372036854775807
       ·rw [if_pos c40] at H
        have c40b0 := eq_true c40
        have c40b1 : decide (((⟨#[105, 115, 110, 117, 108, 108, 40]⟩ : ByteArray) ++ t194).size + 1 ≤ 9223372036854775807) = true := decide_eq_true c40
        try have c40b2 : (9223372036854775807 < ((⟨#[105, 115, 110, 117, 108, 108, 40]⟩ : ByteArray) ++ t194).size + 1) = False := eq_false (Nat.not_lt.2 c40)
        (try (have c40b0z := c40b0; simp only [ByteArray.size_append] at c40b0z))
        (try (have c40b1z := c40b1; simp only [ByteArray.size_append] at c40b1z))
        (try (have c40b2z := c40b2; simp only [ByteArray.size_append] at c40b2z))
        (try (have c40b2y : (9223372036854775807 < 7 + t194.size + 1) = False := by (apply eq_false; have hq_ := c40; simp only [ByteArray.size_append, ByteArray.size_extract] at hq_; have hl0_ : (⟨#[105, 115, 110, 117, 108, 108, 40]⟩ : ByteArray).size = 7 := rfl; omega)))
        obtain rfl := Option.some.inj H
        go_enter Tryd.func49, Tryd.ntmps49
        go_wp2_with (first | ((with_reducible refine gate_dst (N := 1) rfl ?_); refine bx_ 1 #[.int .i64 a0_0, .int .i64 a0_1, .int .i64 a0_2, .int .i64 a0_3, .string a0_4, .string a0_5, .slice A0_6 l0_6.length c0_6] 32 ?_; intro gb184 hg w41 hbox hb; have BK184 := Aside0.mk (hbox); have GW184 := gw_ hg; have GE184 := gw_ hg; replace HB := bs_ hb; clear hb hbox hg; obtain ⟨hcz42_0, hcz42_1, hcz42_2, hcz42_3, hcz42_4, hcz42_5, hcz42_6, hfz42_0, hfz42_1, hfz42_2, hfz42_3, hfz42_4, hfz42_5, hfz42_6⟩ := b7_ BK184; have p193 : 0 ≤ (0 : Int) := (by omega); have q193 : 0 < (l0_6.length : Int) := of_decide_eq_true (by first | (with_reducible assumption) | assumption); obtain ⟨ad193, A193_6, c193_6, e193, hx193_0, hx193_1, hx193_2, hx193_3, hx193_4, hx193_5, hx193_6, hl193_6, hi193_6⟩ := at_T32 HR0_6.out 0 p193 q193; cases e193; have qi193 : (0 < l0_6.length) = True := eq_true (by omega); (try rw [show ((0 : Int)).toNat = 0 from rfl] at hx193_0); (try rw [show 0 * 7 = 0 from rfl] at hx193_0); (try rw [Addr.add_zero'] at hx193_0); (try rw [show ((0 : Int)).toNat = 0 from rfl] at hx193_1); (try rw [show 0 * 7 = 0 from rfl] at hx193_1); (try rw [Addr.add_zero'] at hx193_1); (try rw [show ((0 : Int)).toNat = 0 from rfl] at hx193_2); (try rw [show 0 * 7 = 0 from rfl] at hx193_2); (try rw [Addr.add_zero'] at hx193_2); (try rw [show ((0 : Int)).toNat = 0 from rfl] at hx193_3); (try rw [show 0 * 7 = 0 from rfl] at hx193_3); (try rw [Addr.add_zero'] at hx193_3); (try rw [show ((0 : Int)).toNat = 0 from rfl] at hx193_4); (try rw [show 0 * 7 = 0 from rfl] at hx193_4); (try rw [Addr.add_zero'] at hx193_4); (try rw [show ((0 : Int)).toNat = 0 from rfl] at hx193_5); (try rw [show 0 * 7 = 0 from rfl] at hx193_5); (try rw [Addr.add_zero'] at hx193_5); (try rw [show ((0 : Int)).toNat = 0 from rfl] at hx193_6); (try rw [show 0 * 7 = 0 from rfl] at hx193_6); (try rw [Addr.add_zero'] at hx193_6); replace hx193_0 := hb_ HB hx193_0; replace hx193_1 := hb_ HB hx193_1; replace hx193_2 := hb_ HB hx193_2; replace hx193_3 := hb_ HB hx193_3; replace hx193_4 := hb_ HB hx193_4; replace hx193_5 := hb_ HB hx193_5; replace hx193_6 := hb_ HB hx193_6; have HR193_6 := Aside0.mk hi193_6; have HC193_6 := Aside0.mk hl193_6; clear hi193_6 hl193_6; replace p193 := eq_true p193; replace q193 := eq_true q193) | ((with_reducible refine gate_callee (f := 49) rfl ?_); refine gsL_ (some 49) Tryd.func49 #[.agg #[.int .i64 ((rd_T32 l0_6 0).f0), .int .i64 ((rd_T32 l0_6 0).f1), .int .i64 ((rd_T32 l0_6 0).f2.f0), .int .i64 ((rd_T32 l0_6 0).f2.f1), .string ((rd_T32 l0_6 0).f2.f2), .string ((rd_T32 l0_6 0).f3), .slice A193_6 ((rd_T32 l0_6 0).f4).length c193_6]] ?_; (with_reducible refine (ih k (by omega) ((rd_T32 l0_6 0).f0) ((rd_T32 l0_6 0).f1) ((rd_T32 l0_6 0).f2.f0) ((rd_T32 l0_6 0).f2.f1) ((rd_T32 l0_6 0).f2.f2) ((rd_T32 l0_6 0).f3) _ _ ((rd_T32 l0_6 0).f4) t194 _ ?side1 ?side2 A38.out).mono ?_); (case side1 => exact ck_ (Kd.C_below HR193_6.out HB.out)); (case side2 => exact HC193_6.out); rintro e w43 ⟨rfl, hb⟩; refine ⟨_, rfl, ?_⟩; replace BK184 := bkb_ BK184 hb; replace HB := bs_ hb; (try clear hb); (try clear hb2); (try clear hk); (try clear hi)))
        go_ret
        exact ⟨er_, bb_⟩
       ·rw [if_neg c40] at H
        exact absurd H (by simp)
      ·rw [if_neg c39] at H
       exact absurd H (by simp)
     ·rw [if_neg c37] at H
      exact absurd H (by simp)

/-! ### impl_ExpText: function 10 -/
def impl_ExpText.f (k : Nat) (a0_0 : Int) (a0_1 : Int) (a0_2 : Int) (a0_3 : Int) (a0_4 : ByteArray) (a0_5 : ByteArray) (l0_6 : List (S32)) : Option (ByteArray) := (impl_ExpOk.f k a0_0 a0_1 a0_2 a0_3 a0_4 a0_5 l0_6).bind fun t196 => (if t196 = true then ((impl_expText.f k a0_0 a0_1 a0_2 a0_3 a0_4 a0_5 l0_6).bind fun t197 => (some t197)) else (some (⟨#[]⟩ : ByteArray)))
set_option maxHeartbeats 8000000 in
set_option maxRecDepth 100000 in
theorem impl_ExpText.calls (k : Nat) (a0_0 : Int) (a0_1 : Int) (a0_2 : Int) (a0_3 : Int) (a0_4 : ByteArray) (a0_5 : ByteArray) (A0_6 : Option Addr) (c0_6 : Nat) (l0_6 : List (S32)) (r : ByteArray) (w : World) (hr0_6 : Kd.C k32 w A0_6 l0_6.length l0_6) (hc0_6 : l0_6.length ≤ c0_6) (h : impl_ExpText.f k a0_0 a0_1 a0_2 a0_3 a0_4 a0_5 l0_6 = some r) (hM : MaxLenIn w := by first | assumption | exact MaxLenIn.drewN (by assumption) _ | exact MaxLenIn.later (by assumption) (by assumption) | exact MaxLenIn.drewN (MaxLenIn.later (by assumption) (by assumption)) _ | exact MaxLenIn.later (by assumption) ⟨by repeat (first | exact Aside0.out (by assumption) | apply below_alloc | apply pw_below_drewN | apply below_drew1 | refine below_set ?_ (Aside0.out (by assumption)))⟩) :
  Calls Tryd.prog 10 #[.agg #[.int .i64 a0_0, .int .i64 a0_1, .int .i64 a0_2, .int .i64 a0_3, .string a0_4, .string a0_5, .slice A0_6 l0_6.length c0_6]] w fun e w' => e = .returned (.string r) ∧ Below w.heap.size w w' := by
 have hu32 := Tryd.underlying32
 have HR0_6 := Aside0.mk hr0_6
 have HC0_6 := Aside0.mk hc0_6
 clear hr0_6 hc0_6
 have HB := Aside0.mk (Below.refl w.heap.size w)
 have H : ((impl_ExpOk.f k a0_0 a0_1 a0_2 a0_3 a0_4 a0_5 l0_6).bind fun t196 => (if t196 = true then ((impl_expText.f k a0_0 a0_1 a0_2 a0_3 a0_4 a0_5 l0_6).bind fun t197 => (some t197)) else (some (⟨#[]⟩ : ByteArray)))) = some r := h
 clear h
 replace H := Option.bind_eq_some_iff.mp H
 obtain ⟨t196, A20, H⟩ := H
 replace H : (if t196 = true then ((impl_expText.f k a0_0 a0_1 a0_2 a0_3 a0_4 a0_5 l0_6).bind fun t197 => (some t197)) else (some (⟨#[]⟩ : ByteArray))) = some r := H
 have A2 := Aside0.mk A20
 clear A20
 by_cases c3 : t196 = true
 ·subst c3
  have H1 : ((impl_expText.f k a0_0 a0_1 a0_2 a0_3 a0_4 a0_5 l0_6).bind fun t197 => (some t197)) = some r := by rw [if_pos rfl] at H; exact H
  clear H
  have H := H1
  clear H1
  replace H := Option.bind_eq_some_iff.mp H
  obtain ⟨t197, A40, H⟩ := H
  replace H : (some t197) = some r := H
  have A4 := Aside0.mk A40
  clear A40
  obtain rfl := Option.some.inj H
  go_enter Tryd.func10, Tryd.ntmps10
  go_wp2_with (first | ((with_reducible refine gate_dst (N := 1) rfl ?_); refine bx_ 1 #[.int .i64 a0_0, .int .i64 a0_1, .int .i64 a0_2, .int .i64 a0_3, .string a0_4, .string a0_5, .slice A0_6 l0_6.length c0_6] 32 ?_; intro gb195 hg w5 hbox hb; have BK195 := Aside0.mk (hbox); have GW195 := gw_ hg; have GE195 := gw_ hg; replace HB := bs_ hb; clear hb hbox hg; obtain ⟨hcz6_0, hcz6_1, hcz6_2, hcz6_3, hcz6_4, hcz6_5, hcz6_6, hfz6_0, hfz6_1, hfz6_2, hfz6_3, hfz6_4, hfz6_5, hfz6_6⟩ := b7_ BK195) | ((with_reducible refine gate_callee (f := 48) rfl ?_); refine gsL_ (some 4) Tryd.func48 #[.agg #[.int .i64 a0_0, .int .i64 a0_1, .int .i64 a0_2, .int .i64 a0_3, .string a0_4, .string a0_5, .slice A0_6 l0_6.length c0_6]] ?_; (with_reducible refine (impl_ExpOk.calls k a0_0 a0_1 a0_2 a0_3 a0_4 a0_5 _ _ l0_6 true _ ?side1 ?side2 A2.out).mono ?_); (case side1 => exact ck_ (Kd.C_below HR0_6.out HB.out)); (case side2 => exact HC0_6.out); rintro e w7 ⟨rfl, hb⟩; refine ⟨_, rfl, ?_⟩; replace BK195 := bkb_ BK195 hb; replace HB := bs_ hb; (try clear hb); (try clear hb2); (try clear hk); (try clear hi); obtain ⟨hcz8_0, hcz8_1, hcz8_2, hcz8_3, hcz8_4, hcz8_5, hcz8_6, hfz8_0, hfz8_1, hfz8_2, hfz8_3, hfz8_4, hfz8_5, hfz8_6⟩ := b7_ BK195) | ((with_reducible refine gate_callee (f := 49) rfl ?_); refine gsL_ (some 7) Tryd.func49 #[.agg #[.int .i64 a0_0, .int .i64 a0_1, .int .i64 a0_2, .int .i64 a0_3, .string a0_4, .string a0_5, .slice A0_6 l0_6.length c0_6]] ?_; (with_reducible refine (impl_expText.calls k a0_0 a0_1 a0_2 a0_3 a0_4 a0_5 _ _ l0_6 t197 _ ?side1 ?side2 A4.out).mono ?_); (case side1 => exact ck_ (Kd.C_below HR0_6.out HB.out)); (case side2 => exact HC0_6.out); rintro e w9 ⟨rfl, hb⟩; refine ⟨_, rfl, ?_⟩; replace BK195 := bkb_ BK195 hb; replace HB := bs_ hb; (try clear hb); (try clear hb2); (try clear hk); (try clear hi)))
  go_ret
  exact ⟨er_, bb_⟩
 ·replace c3 := Bool.eq_false_iff.mpr c3
  subst c3
  have H1 : (some (⟨#[]⟩ : ByteArray)) = some r := by rw [if_neg (show ¬ (false = true) by decide)] at H; exact H
  clear H
  have H := H1
  clear H1
  obtain rfl := Option.some.inj H
  go_enter Tryd.func10, Tryd.ntmps10
  go_wp2_with (first | ((with_reducible refine gate_dst (N := 1) rfl ?_); refine bx_ 1 #[.int .i64 a0_0, .int .i64 a0_1, .int .i64 a0_2, .int .i64 a0_3, .string a0_4, .string a0_5, .slice A0_6 l0_6.length c0_6] 32 ?_; intro gb195 hg w10 hbox hb; have BK195 := Aside0.mk (hbox); have GW195 := gw_ hg; have GE195 := gw_ hg; replace HB := bs_ hb; clear hb hbox hg; obtain ⟨hcz11_0, hcz11_1, hcz11_2, hcz11_3, hcz11_4, hcz11_5, hcz11_6, hfz11_0, hfz11_1, hfz11_2, hfz11_3, hfz11_4, hfz11_5, hfz11_6⟩ := b7_ BK195) | ((with_reducible refine gate_callee (f := 48) rfl ?_); refine gsL_ (some 4) Tryd.func48 #[.agg #[.int .i64 a0_0, .int .i64 a0_1, .int .i64 a0_2, .int .i64 a0_3, .string a0_4, .string a0_5, .slice A0_6 l0_6.length c0_6]] ?_; (with_reducible refine (impl_ExpOk.calls k a0_0 a0_1 a0_2 a0_3 a0_4 a0_5 _ _ l0_6 false _ ?side1 ?side2 A2.out).mono ?_); (case side1 => exact ck_ (Kd.C_below HR0_6.out HB.out)); (case side2 => exact HC0_6.out); rintro e w12 ⟨rfl, hb⟩; refine ⟨_, rfl, ?_⟩; replace BK195 := bkb_ BK195 hb; replace HB := bs_ hb; (try clear hb); (try clear hb2); (try clear hk); (try clear hi)))
  go_ret
  exact ⟨er_, bb_⟩

/-! ### laws_eqValue: function 50 -/
def laws_eqValue.f (a0_0 : Int) (a0_1 : Int) (a0_2 : ByteArray) (a1_0 : Int) (a1_1 : Int) (a1_2 : ByteArray) : Option (Bool) := if a0_0 = a1_0 then (if a0_1 = a1_1 then (if a0_2.toList = a1_2.toList then (some true) else (some false)) else (some false)) else (some false)
set_option maxHeartbeats 8000000 in
set_option maxRecDepth 100000 in
theorem laws_eqValue.calls (a0_0 : Int) (a0_1 : Int) (a0_2 : ByteArray) (a1_0 : Int) (a1_1 : Int) (a1_2 : ByteArray) (r : Bool) (w : World) (h : laws_eqValue.f a0_0 a0_1 a0_2 a1_0 a1_1 a1_2 = some r) :
  Calls Tryd.prog 50 #[.agg #[.int .i64 a0_0, .int .i64 a0_1, .string a0_2], .agg #[.int .i64 a1_0, .int .i64 a1_1, .string a1_2]] w fun e w' => e = .returned (.bool r) ∧ Below w.heap.size w w' := by
 have hu29 := Tryd.underlying29
 have HB := Aside0.mk (Below.refl w.heap.size w)
 have H : (if a0_0 = a1_0 then (if a0_1 = a1_1 then (if a0_2.toList = a1_2.toList then (some true) else (some false)) else (some false)) else (some false)) = some r := h
 clear h
 by_cases c3 : a0_0 = a1_0
 ·rw [if_pos c3] at H
  have c3b0 : (a0_0 == a1_0) = true := beq_iff_eq.mpr c3
  have c3b1 : (a0_0 != a1_0) = false := bne_eq_false_iff_eq.mpr c3
  clear c3
  by_cases c4 : a0_1 = a1_1
  ·rw [if_pos c4] at H
   have c4b0 : (a0_1 == a1_1) = true := beq_iff_eq.mpr c4
   have c4b1 : (a0_1 != a1_1) = false := bne_eq_false_iff_eq.mpr c4
   clear c4
   by_cases c5 : a0_2.toList = a1_2.toList
   ·rw [if_pos c5] at H
    have c5b0 : (a0_2.toList == a1_2.toList) = true := beq_iff_eq.mpr c5
    have c5b1 : (a0_2.toList != a1_2.toList) = false := bne_eq_false_iff_eq.mpr c5
    clear c5
    obtain rfl := Option.some.inj H
    go_enter Tryd.func50, Tryd.ntmps50
    go_wp2_with (first | ((with_reducible refine gate_dst (N := 2) rfl ?_); refine bx_ 2 #[.int .i64 a0_0, .int .i64 a0_1, .string a0_2] 29 ?_; intro gb198 hg w6 hbox hb; have BK198 := Aside0.mk (hbox); have GW198 := gw_ hg; have GE198 := gw_ hg; replace HB := bs_ hb; clear hb hbox hg) | ((with_reducible refine gate_dst (N := 3) rfl ?_); refine bx_ 3 #[.int .i64 a1_0, .int .i64 a1_1, .string a1_2] 29 ?_; intro gb199 hg w7 hbox hb; have BK199 := Aside0.mk (hbox); have GW199 := gw_ hg; have GE199 := gw_ hg; have NB198_199 := nl_ hg BK198; have NB199_198 := ng_ hg BK198; replace BK198 := bkb_ BK198 hb; replace HB := bs_ hb; clear hb hbox hg; have hnb8 := NB198_199.out; have hnc8 := NB199_198.out; obtain ⟨hcz9_0, hcz9_1, hcz9_2, hfz9_0, hfz9_1, hfz9_2⟩ := b3_ BK198; obtain ⟨hcz10_0, hcz10_1, hcz10_2, hfz10_0, hfz10_1, hfz10_2⟩ := b3_ BK199))
    go_ret
    exact ⟨er_, bb_⟩
   ·rw [if_neg c5] at H
    have c5b0 : (a0_2.toList == a1_2.toList) = false := beq_eq_false_iff_ne.mpr c5
    have c5b1 : (a0_2.toList != a1_2.toList) = true := bne_iff_ne.mpr c5
    obtain rfl := Option.some.inj H
    go_enter Tryd.func50, Tryd.ntmps50
    go_wp2_with (first | ((with_reducible refine gate_dst (N := 2) rfl ?_); refine bx_ 2 #[.int .i64 a0_0, .int .i64 a0_1, .string a0_2] 29 ?_; intro gb198 hg w11 hbox hb; have BK198 := Aside0.mk (hbox); have GW198 := gw_ hg; have GE198 := gw_ hg; replace HB := bs_ hb; clear hb hbox hg) | ((with_reducible refine gate_dst (N := 3) rfl ?_); refine bx_ 3 #[.int .i64 a1_0, .int .i64 a1_1, .string a1_2] 29 ?_; intro gb199 hg w12 hbox hb; have BK199 := Aside0.mk (hbox); have GW199 := gw_ hg; have GE199 := gw_ hg; have NB198_199 := nl_ hg BK198; have NB199_198 := ng_ hg BK198; replace BK198 := bkb_ BK198 hb; replace HB := bs_ hb; clear hb hbox hg; have hnb13 := NB198_199.out; have hnc13 := NB199_198.out; obtain ⟨hcz14_0, hcz14_1, hcz14_2, hfz14_0, hfz14_1, hfz14_2⟩ := b3_ BK198; obtain ⟨hcz15_0, hcz15_1, hcz15_2, hfz15_0, hfz15_1, hfz15_2⟩ := b3_ BK199))
    go_ret
    exact ⟨er_, bb_⟩
  ·rw [if_neg c4] at H
   have c4b0 : (a0_1 == a1_1) = false := beq_eq_false_iff_ne.mpr c4
   have c4b1 : (a0_1 != a1_1) = true := bne_iff_ne.mpr c4
   obtain rfl := Option.some.inj H
   go_enter Tryd.func50, Tryd.ntmps50
   go_wp2_with (first | ((with_reducible refine gate_dst (N := 2) rfl ?_); refine bx_ 2 #[.int .i64 a0_0, .int .i64 a0_1, .string a0_2] 29 ?_; intro gb198 hg w16 hbox hb; have BK198 := Aside0.mk (hbox); have GW198 := gw_ hg; have GE198 := gw_ hg; replace HB := bs_ hb; clear hb hbox hg) | ((with_reducible refine gate_dst (N := 3) rfl ?_); refine bx_ 3 #[.int .i64 a1_0, .int .i64 a1_1, .string a1_2] 29 ?_; intro gb199 hg w17 hbox hb; have BK199 := Aside0.mk (hbox); have GW199 := gw_ hg; have GE199 := gw_ hg; have NB198_199 := nl_ hg BK198; have NB199_198 := ng_ hg BK198; replace BK198 := bkb_ BK198 hb; replace HB := bs_ hb; clear hb hbox hg; have hnb18 := NB198_199.out; have hnc18 := NB199_198.out; obtain ⟨hcz19_0, hcz19_1, hcz19_2, hfz19_0, hfz19_1, hfz19_2⟩ := b3_ BK198; obtain ⟨hcz20_0, hcz20_1, hcz20_2, hfz20_0, hfz20_1, hfz20_2⟩ := b3_ BK199))
   go_ret
   exact ⟨er_, bb_⟩
 ·rw [if_neg c3] at H
  have c3b0 : (a0_0 == a1_0) = false := beq_eq_false_iff_ne.mpr c3
  have c3b1 : (a0_0 != a1_0) = true := bne_iff_ne.mpr c3
  obtain rfl := Option.some.inj H
  go_enter Tryd.func50, Tryd.ntmps50
  go_wp2_with (first | ((with_reducible refine gate_dst (N := 2) rfl ?_); refine bx_ 2 #[.int .i64 a0_0, .int .i64 a0_1, .string a0_2] 29 ?_; intro gb198 hg w21 hbox hb; have BK198 := Aside0.mk (hbox); have GW198 := gw_ hg; have GE198 := gw_ hg; replace HB := bs_ hb; clear hb hbox hg) | ((with_reducible refine gate_dst (N := 3) rfl ?_); refine bx_ 3 #[.int .i64 a1_0, .int .i64 a1_1, .string a1_2] 29 ?_; intro gb199 hg w22 hbox hb; have BK199 := Aside0.mk (hbox); have GW199 := gw_ hg; have GE199 := gw_ hg; have NB198_199 := nl_ hg BK198; have NB199_198 := ng_ hg BK198; replace BK198 := bkb_ BK198 hb; replace HB := bs_ hb; clear hb hbox hg; have hnb23 := NB198_199.out; have hnc23 := NB199_198.out; obtain ⟨hcz24_0, hcz24_1, hcz24_2, hfz24_0, hfz24_1, hfz24_2⟩ := b3_ BK198; obtain ⟨hcz25_0, hcz25_1, hcz25_2, hfz25_0, hfz25_1, hfz25_2⟩ := b3_ BK199))
  go_ret
  exact ⟨er_, bb_⟩

end Go.Proofs.YthgdmdabdlgliaaDoor.PFnExactExpText
