-- WRITTEN BY xprint.py, a program of this session over the kit's printer: by nobody's hand
-- PRESSED
import Derived.Test.YtmkllhkhiefbnaaDoorPress
import Derived.Test.YtmkllhkhiefbnaaDoorPFnExactValueTextx0
import Derived.Test.YtmkllhkhiefbnaaDoorPFnExactValueTextx1
namespace Go.Proofs.YtmkllhkhiefbnaaDoor.PFnExactValueText
open Go.RowKit Go.Proofs.YtmkllhkhiefbnaaDoorW.PrintWords Go.Proofs.YtmkllhkhiefbnaaDoorW.PrintLast Go.Proofs.YtmkllhkhiefbnaaDoorW.PrintMore
set_option linter.unusedVariables false
set_option linter.unusedSimpArgs false

/-! ### impl_ValueText: function 10 -/
def impl_ValueText.f (a0_0 : Int) (a0_1 : Int) (a0_2 : ByteArray) : Option (ByteArray) := (impl_ValueOk.f a0_0 a0_1 a0_2).bind fun t116 => (if t116 = true then (if a0_0 = 0 then (some (⟨#[110, 117, 108, 108]⟩ : ByteArray)) else (if a0_0 = 1 then ((impl_DecText.f a0_1).bind fun t117 => (some t117)) else (if a0_0 = 2 then ((strconv_FormatBool_15.f (a0_1 == 1)).bind fun t118 => (some t118)) else ((strings_ReplaceAll.f a0_2 (⟨#[39]⟩ : ByteArray) (⟨#[39, 39]⟩ : ByteArray)).bind fun t119 => (if 1 + t119.size ≤ 9223372036854775807 then (if ((⟨#[39]⟩ : ByteArray) ++ t119).size + 1 ≤ 9223372036854775807 then (some (((⟨#[39]⟩ : ByteArray) ++ t119) ++ (⟨#[39]⟩ : ByteArray))) else (none)) else (none)))))) else (some (⟨#[]⟩ : ByteArray)))
set_option maxHeartbeats 8000000 in
set_option maxRecDepth 100000 in
theorem impl_ValueText.calls (a0_0 : Int) (a0_1 : Int) (a0_2 : ByteArray) (r : ByteArray) (w : World) (h : impl_ValueText.f a0_0 a0_1 a0_2 = some r) (hM : MaxLenIn w := by first | assumption | exact MaxLenIn.drewN (by assumption) _ | exact MaxLenIn.later (by assumption) (by assumption) | exact MaxLenIn.drewN (MaxLenIn.later (by assumption) (by assumption)) _) :
  Calls Tryd.prog 10 #[.agg #[.int .i64 a0_0, .int .i64 a0_1, .string a0_2]] w fun e w' => e = .returned (.string r) ∧ Below w.heap.size w w' := by
 have hu28 := Tryd.underlying28
 have HB := Aside0.mk (Below.refl w.heap.size w)
 have H : ((impl_ValueOk.f a0_0 a0_1 a0_2).bind fun t116 => (if t116 = true then (if a0_0 = 0 then (some (⟨#[110, 117, 108, 108]⟩ : ByteArray)) else (if a0_0 = 1 then ((impl_DecText.f a0_1).bind fun t117 => (some t117)) else (if a0_0 = 2 then ((strconv_FormatBool_15.f (a0_1 == 1)).bind fun t118 => (some t118)) else ((strings_ReplaceAll.f a0_2 (⟨#[39]⟩ : ByteArray) (⟨#[39, 39]⟩ : ByteArray)).bind fun t119 => (if 1 + t119.size ≤ 9223372036854775807 then (if ((⟨#[39]⟩ : ByteArray) ++ t119).size + 1 ≤ 9223372036854775807 then (some (((⟨#[39]⟩ : ByteArray) ++ t119) ++ (⟨#[39]⟩ : ByteArray))) else (none)) else (none)))))) else (some (⟨#[]⟩ : ByteArray)))) = some r := h
 clear h
 replace H := Option.bind_eq_some_iff.mp H
 obtain ⟨t116, A20, H⟩ := H
 replace H : (if t116 = true then (if a0_0 = 0 then (some (⟨#[110, 117, 108, 108]⟩ : ByteArray)) else (if a0_0 = 1 then ((impl_DecText.f a0_1).bind fun t117 => (some t117)) else (if a0_0 = 2 then ((strconv_FormatBool_15.f (a0_1 == 1)).bind fun t118 => (some t118)) else ((strings_ReplaceAll.f a0_2 (⟨#[39]⟩ : ByteArray) (⟨#[39, 39]⟩ : ByteArray)).bind fun t119 => (if 1 + t119.size ≤ 9223372036854775807 then (if ((⟨#[39]⟩ : ByteArray) ++ t119).size + 1 ≤ 9223372036854775807 then (some (((⟨#[39]⟩ : ByteArray) ++ t119) ++ (⟨#[39]⟩ : ByteArray))) else (none)) else (none)))))) else (some (⟨#[]⟩ : ByteArray))) = some r := H
 have A2 := Aside0.mk A20
 clear A20
 by_cases c3 : t116 = true
 ·subst c3
  have H1 : (if a0_0 = 0 then (some (⟨#[110, 117, 108, 108]⟩ : ByteArray)) else (if a0_0 = 1 then ((impl_DecText.f a0_1).bind fun t117 => (some t117)) else (if a0_0 = 2 then ((strconv_FormatBool_15.f (a0_1 == 1)).bind fun t118 => (some t118)) else ((strings_ReplaceAll.f a0_2 (⟨#[39]⟩ : ByteArray) (⟨#[39, 39]⟩ : ByteArray)).bind fun t119 => (if 1 + t119.size ≤ 9223372036854775807 then (if ((⟨#[39]⟩ : ByteArray) ++ t119).size + 1 ≤ 9223372036854775807 then (some (((⟨#[39]⟩ : ByteArray) ++ t119) ++ (⟨#[39]⟩ : ByteArray))) else (none)) else (none)))))) = some r := by rw [if_pos rfl] at H; exact H
  clear H
  have H := H1
  clear H1
  by_cases c4 : a0_0 = 0
  ·rw [if_pos c4] at H
   have c4b0 : (a0_0 == 0) = true := beq_iff_eq.mpr c4
   have c4b1 : (a0_0 != 0) = false := bne_eq_false_iff_eq.mpr c4
   clear c4
   obtain rfl := Option.some.inj H
   go_enter Tryd.func10, Tryd.ntmps10
   go_wp2_with (first | ((with_reducible refine gate_dst (N := 1) rfl ?_); refine bx_ 1 #[.int .i64 a0_0, .int .i64 a0_1, .string a0_2] 28 ?_; intro gb115 hg w5 hbox hb; have BK115 := Aside0.mk (hbox); have GW115 := gw_ hg; have GE115 := gw_ hg; replace HB := bs_ hb; clear hb hbox hg; obtain ⟨hcz6_0, hcz6_1, hcz6_2, hfz6_0, hfz6_1, hfz6_2⟩ := b3_ BK115) | ((with_reducible refine gate_callee (f := 14) rfl ?_); refine gsL_ (some 5) Tryd.func14 #[.agg #[.int .i64 a0_0, .int .i64 a0_1, .string a0_2]] ?_; (with_reducible refine (impl_ValueOk.calls a0_0 a0_1 a0_2 true _ A2.out).mono ?_); rintro e w7 ⟨rfl, hb⟩; refine ⟨_, rfl, ?_⟩; replace BK115 := bkb_ BK115 hb; replace HB := bs_ hb; (try clear hb); (try clear hb2); (try clear hk); (try clear hi); obtain ⟨hcz8_0, hcz8_1, hcz8_2, hfz8_0, hfz8_1, hfz8_2⟩ := b3_ BK115))
   go_ret
   exact ⟨er_, bb_⟩
  ·rw [if_neg c4] at H
   have c4b0 : (a0_0 == 0) = false := beq_eq_false_iff_ne.mpr c4
   have c4b1 : (a0_0 != 0) = true := bne_iff_ne.mpr c4
   by_cases c9 : a0_0 = 1
   ·rw [if_pos c9] at H
    have c9b0 : (a0_0 == 1) = true := beq_iff_eq.mpr c9
    have c9b1 : (a0_0 != 1) = false := bne_eq_false_iff_eq.mpr c9
    clear c9
    replace H := Option.bind_eq_some_iff.mp H
    obtain ⟨t117, A100, H⟩ := H
    replace H : (some t117) = some r := H
    have A10 := Aside0.mk A100
    clear A100
    obtain rfl := Option.some.inj H
    go_enter Tryd.func10, Tryd.ntmps10
    go_wp2_with (first | ((with_reducible refine gate_dst (N := 1) rfl ?_); refine bx_ 1 #[.int .i64 a0_0, .int .i64 a0_1, .string a0_2] 28 ?_; intro gb115 hg w11 hbox hb; have BK115 := Aside0.mk (hbox); have GW115 := gw_ hg; have GE115 := gw_ hg; replace HB := bs_ hb; clear hb hbox hg; obtain ⟨hcz12_0, hcz12_1, hcz12_2, hfz12_0, hfz12_1, hfz12_2⟩ := b3_ BK115) | ((with_reducible refine gate_callee (f := 14) rfl ?_); refine gsL_ (some 5) Tryd.func14 #[.agg #[.int .i64 a0_0, .int .i64 a0_1, .string a0_2]] ?_; (with_reducible refine (impl_ValueOk.calls a0_0 a0_1 a0_2 true _ A2.out).mono ?_); rintro e w13 ⟨rfl, hb⟩; refine ⟨_, rfl, ?_⟩; replace BK115 := bkb_ BK115 hb; replace HB := bs_ hb; (try clear hb); (try clear hb2); (try clear hk); (try clear hi); obtain ⟨hcz14_0, hcz14_1, hcz14_2, hfz14_0, hfz14_1, hfz14_2⟩ := b3_ BK115) | ((with_reducible refine gate_callee (f := 6) rfl ?_); refine gsL_ (some 17) Tryd.func6 #[.int .i64 a0_1] ?_; (with_reducible refine (impl_DecText.calls a0_1 t117 _ A10.out).mono ?_); rintro e w15 ⟨rfl, hb⟩; refine ⟨_, rfl, ?_⟩; replace BK115 := bkb_ BK115 hb; replace HB := bs_ hb; (try clear hb); (try clear hb2); (try clear hk); (try clear hi)))
    go_ret
    exact ⟨er_, bb_⟩
   ·rw [if_neg c9] at H
    have c9b0 : (a0_0 == 1) = false := beq_eq_false_iff_ne.mpr c9
    have c9b1 : (a0_0 != 1) = true := bne_iff_ne.mpr c9
    by_cases c16 : a0_0 = 2
    ·rw [if_pos c16] at H
     have c16b0 : (a0_0 == 2) = true := beq_iff_eq.mpr c16
     have c16b1 : (a0_0 != 2) = false := bne_eq_false_iff_eq.mpr c16
     clear c16
     replace H := Option.bind_eq_some_iff.mp H
     obtain ⟨t118, A170, H⟩ := H
     replace H : (some t118) = some r := H
     have A17 := Aside0.mk A170
     clear A170
     obtain rfl := Option.some.inj H
     go_enter Tryd.func10, Tryd.ntmps10
     go_wp2_with (first | ((with_reducible refine gate_dst (N := 1) rfl ?_); refine bx_ 1 #[.int .i64 a0_0, .int .i64 a0_1, .string a0_2] 28 ?_; intro gb115 hg w18 hbox hb; have BK115 := Aside0.mk (hbox); have GW115 := gw_ hg; have GE115 := gw_ hg; replace HB := bs_ hb; clear hb hbox hg; obtain ⟨hcz19_0, hcz19_1, hcz19_2, hfz19_0, hfz19_1, hfz19_2⟩ := b3_ BK115) | ((with_reducible refine gate_callee (f := 14) rfl ?_); refine gsL_ (some 5) Tryd.func14 #[.agg #[.int .i64 a0_0, .int .i64 a0_1, .string a0_2]] ?_; (with_reducible refine (impl_ValueOk.calls a0_0 a0_1 a0_2 true _ A2.out).mono ?_); rintro e w20 ⟨rfl, hb⟩; refine ⟨_, rfl, ?_⟩; replace BK115 := bkb_ BK115 hb; replace HB := bs_ hb; (try clear hb); (try clear hb2); (try clear hk); (try clear hi); obtain ⟨hcz21_0, hcz21_1, hcz21_2, hfz21_0, hfz21_1, hfz21_2⟩ := b3_ BK115) | ((with_reducible refine gate_callee (f := 15) rfl ?_); refine gsL_ (some 25) Tryd.func15 #[.bool (a0_1 == 1)] ?_; (with_reducible refine (strconv_FormatBool_15.calls (a0_1 == 1) t118 _ A17.out).mono ?_); rintro e w' ⟨rfl, ⟨nd, rfl⟩⟩; refine ⟨_, rfl, ?_⟩))
     go_ret
     exact ⟨er_, bb_⟩
    ·rw [if_neg c16] at H
     have c16b0 : (a0_0 == 2) = false := beq_eq_false_iff_ne.mpr c16
     have c16b1 : (a0_0 != 2) = true := bne_iff_ne.mpr c16
     replace H := Option.bind_eq_some_iff.mp H
     obtain ⟨t119, A220, H⟩ := H
     replace H : (if 1 + t119.size ≤ 9223372036854775807 then (if ((⟨#[39]⟩ : ByteArray) ++ t119).size + 1 ≤ 9223372036854775807 then (some (((⟨#[39]⟩ : ByteArray) ++ t119) ++ (⟨#[39]⟩ : ByteArray))) else (none)) else (none)) = some r := H
     have A22 := Aside0.mk A220
     clear A220
     by_cases c23 : 1 + t119.size ≤ 9223372036854775807
     ·rw [if_pos c23] at H
      have c23b0 := eq_true c23
      have c23b1 : decide (1 + t119.size ≤ 9223372036854775807) = true := decide_eq_true c23
      try have c23b2 : (9223372036854775807 < 1 + t119.size) = False := eq_false (Nat.not_lt.2 c23)
      by_cases c24 : ((⟨#[39]⟩ : ByteArray) ++ t119).size + 1 ≤ 9223372036854775807
      ·rw [if_pos c24] at H
       have c24b0 := eq_true c24
       have c24b1 : decide (((⟨#[39]⟩ : ByteArray) ++ t119).size + 1 ≤ 9223372036854775807) = true := decide_eq_true c24
       try have c24b2 : (9223372036854775807 < ((⟨#[39]⟩ : ByteArray) ++ t119).size + 1) = False := eq_false (Nat.not_lt.2 c24)
       (try (have c24b0z := c24b0; simp only [ByteArray.size_append] at c24b0z))
       (try (have c24b1z := c24b1; simp only [ByteArray.size_append] at c24b1z))
       (try (have c24b2z := c24b2; simp only [ByteArray.size_append] at c24b2z))
       (try (have c24b2y : (9223372036854775807 < 1 + t119.size + 1) = False := by (apply eq_false; have hq_ := c24; simp only [ByteArray.size_append] at hq_; have hl_ : (⟨#[39]⟩ : ByteArray).size = 1 := rfl; omega)))
       obtain rfl := Option.some.inj H
       go_enter Tryd.func10, Tryd.ntmps10
       go_wp2_with (first | ((with_reducible refine gate_dst (N := 1) rfl ?_); refine bx_ 1 #[.int .i64 a0_0, .int .i64 a0_1, .string a0_2] 28 ?_; intro gb115 hg w25 hbox hb; have BK115 := Aside0.mk (hbox); have GW115 := gw_ hg; have GE115 := gw_ hg; replace HB := bs_ hb; clear hb hbox hg; obtain ⟨hcz26_0, hcz26_1, hcz26_2, hfz26_0, hfz26_1, hfz26_2⟩ := b3_ BK115) | ((with_reducible refine gate_callee (f := 14) rfl ?_); refine gsL_ (some 5) Tryd.func14 #[.agg #[.int .i64 a0_0, .int .i64 a0_1, .string a0_2]] ?_; (with_reducible refine (impl_ValueOk.calls a0_0 a0_1 a0_2 true _ A2.out).mono ?_); rintro e w27 ⟨rfl, hb⟩; refine ⟨_, rfl, ?_⟩; replace BK115 := bkb_ BK115 hb; replace HB := bs_ hb; (try clear hb); (try clear hb2); (try clear hk); (try clear hi); obtain ⟨hcz28_0, hcz28_1, hcz28_2, hfz28_0, hfz28_1, hfz28_2⟩ := b3_ BK115) | ((with_reducible refine gate_callee (f := 16) rfl ?_); refine gsL_ (some 28) Tryd.func16 #[.string a0_2, .string (⟨#[39]⟩ : ByteArray), .string (⟨#[39, 39]⟩ : ByteArray)] ?_; (with_reducible refine (strings_ReplaceAll.calls a0_2 (⟨#[39]⟩ : ByteArray) (⟨#[39, 39]⟩ : ByteArray) t119 _ A22.out).mono ?_); rintro e w29 ⟨rfl, hb⟩; refine ⟨_, rfl, ?_⟩; replace BK115 := bkb_ BK115 hb; replace HB := bs_ hb; (try clear hb); (try clear hb2); (try clear hk); (try clear hi)))
       go_ret
       exact ⟨er_, bb_⟩
      ·rw [if_neg c24] at H
       exact absurd H (by simp)
     ·rw [if_neg c23] at H
      exact absurd H (by simp)
 ·replace c3 := Bool.eq_false_iff.mpr c3
  subst c3
  have H1 : (some (⟨#[]⟩ : ByteArray)) = some r := by rw [if_neg (show ¬ (false = true) by decide)] at H; exact H
  clear H
  have H := H1
  clear H1
  obtain rfl := Option.some.inj H
  go_enter Tryd.func10, Tryd.ntmps10
  go_wp2_with (first | ((with_reducible refine gate_dst (N := 1) rfl ?_); refine bx_ 1 #[.int .i64 a0_0, .int .i64 a0_1, .string a0_2] 28 ?_; intro gb115 hg w30 hbox hb; have BK115 := Aside0.mk (hbox); have GW115 := gw_ hg; have GE115 := gw_ hg; replace HB := bs_ hb; clear hb hbox hg; obtain ⟨hcz31_0, hcz31_1, hcz31_2, hfz31_0, hfz31_1, hfz31_2⟩ := b3_ BK115) | ((with_reducible refine gate_callee (f := 14) rfl ?_); refine gsL_ (some 5) Tryd.func14 #[.agg #[.int .i64 a0_0, .int .i64 a0_1, .string a0_2]] ?_; (with_reducible refine (impl_ValueOk.calls a0_0 a0_1 a0_2 false _ A2.out).mono ?_); rintro e w32 ⟨rfl, hb⟩; refine ⟨_, rfl, ?_⟩; replace BK115 := bkb_ BK115 hb; replace HB := bs_ hb; (try clear hb); (try clear hb2); (try clear hk); (try clear hi)))
  go_ret
  exact ⟨er_, bb_⟩

/-! ### laws_FnExactValueText: function 4 -/
def laws_FnExactValueText.f (k : Nat) (a0_0 : Int) (a0_1 : Int) (a0_2 : ByteArray) : Option (Bool) := (laws_szValue.f a0_0 a0_1 a0_2 1048576).bind fun t121 => (if t121 < 0 then (some true) else ((laws_toValue.f a0_0 a0_1 a0_2).bind fun bt122 => ((spec_ValueText.f k bt122.1 bt122.2.1 bt122.2.2).bind fun t125 => ((laws_toValue.f a0_0 a0_1 a0_2).bind fun bt126 => ((impl_ValueText.f bt126.1 bt126.2.1 bt126.2.2).bind fun t129 => (if t129.toList = t125.toList then (some true) else (some false)))))))
set_option maxHeartbeats 8000000 in
set_option maxRecDepth 100000 in
theorem laws_FnExactValueText.calls (k : Nat) (a0_0 : Int) (a0_1 : Int) (a0_2 : ByteArray) (r : Bool) (w : World) (h : laws_FnExactValueText.f k a0_0 a0_1 a0_2 = some r) (hM : MaxLenIn w := by first | assumption | exact MaxLenIn.drewN (by assumption) _ | exact MaxLenIn.later (by assumption) (by assumption) | exact MaxLenIn.drewN (MaxLenIn.later (by assumption) (by assumption)) _) :
  Calls Tryd.prog 4 #[.agg #[.int .i64 a0_0, .int .i64 a0_1, .string a0_2]] w fun e w' => e = .returned (.bool r) ∧ Below w.heap.size w w' := by
 have hu25 := Tryd.underlying25
 have HB := Aside0.mk (Below.refl w.heap.size w)
 have H : ((laws_szValue.f a0_0 a0_1 a0_2 1048576).bind fun t121 => (if t121 < 0 then (some true) else ((laws_toValue.f a0_0 a0_1 a0_2).bind fun bt122 => ((spec_ValueText.f k bt122.1 bt122.2.1 bt122.2.2).bind fun t125 => ((laws_toValue.f a0_0 a0_1 a0_2).bind fun bt126 => ((impl_ValueText.f bt126.1 bt126.2.1 bt126.2.2).bind fun t129 => (if t129.toList = t125.toList then (some true) else (some false)))))))) = some r := h
 clear h
 replace H := Option.bind_eq_some_iff.mp H
 obtain ⟨t121, A20, H⟩ := H
 replace H : (if t121 < 0 then (some true) else ((laws_toValue.f a0_0 a0_1 a0_2).bind fun bt122 => ((spec_ValueText.f k bt122.1 bt122.2.1 bt122.2.2).bind fun t125 => ((laws_toValue.f a0_0 a0_1 a0_2).bind fun bt126 => ((impl_ValueText.f bt126.1 bt126.2.1 bt126.2.2).bind fun t129 => (if t129.toList = t125.toList then (some true) else (some false))))))) = some r := H
 have A2 := Aside0.mk A20
 clear A20
 by_cases c3 : t121 < 0
 ·rw [if_pos c3] at H
  have c3b0 : decide (t121 < 0) = true := decide_eq_true c3
  clear c3
  obtain rfl := Option.some.inj H
  go_enter Tryd.func4, Tryd.ntmps4
  go_wp2_with (first | ((with_reducible refine gate_dst (N := 1) rfl ?_); refine bx_ 1 #[.int .i64 a0_0, .int .i64 a0_1, .string a0_2] 25 ?_; intro gb120 hg w4 hbox hb; have BK120 := Aside0.mk (hbox); have GW120 := gw_ hg; have GE120 := gw_ hg; replace HB := bs_ hb; clear hb hbox hg; obtain ⟨hcz5_0, hcz5_1, hcz5_2, hfz5_0, hfz5_1, hfz5_2⟩ := b3_ BK120) | ((with_reducible refine gate_callee (f := 7) rfl ?_); refine gsL_ (some 8) Tryd.func7 #[.agg #[.int .i64 a0_0, .int .i64 a0_1, .string a0_2], .int .i64 1048576] ?_; (with_reducible refine (laws_szValue.calls a0_0 a0_1 a0_2 1048576 t121 _ A2.out).mono ?_); rintro e w6 ⟨rfl, hb⟩; refine ⟨_, rfl, ?_⟩; replace BK120 := bkb_ BK120 hb; replace HB := bs_ hb; (try clear hb); (try clear hb2); (try clear hk); (try clear hi)))
  go_ret
  exact ⟨er_, bb_⟩
 ·rw [if_neg c3] at H
  have c3b0 : decide (t121 < 0) = false := decide_eq_false c3
  clear c3
  replace H := Option.bind_eq_some_iff.mp H
  obtain ⟨⟨t122, t123, t124⟩, A70, H⟩ := H
  replace H : ((spec_ValueText.f k t122 t123 t124).bind fun t125 => ((laws_toValue.f a0_0 a0_1 a0_2).bind fun bt126 => ((impl_ValueText.f bt126.1 bt126.2.1 bt126.2.2).bind fun t129 => (if t129.toList = t125.toList then (some true) else (some false))))) = some r := H
  have A7 := Aside0.mk A70
  clear A70
  replace H := Option.bind_eq_some_iff.mp H
  obtain ⟨t125, A80, H⟩ := H
  replace H : ((laws_toValue.f a0_0 a0_1 a0_2).bind fun bt126 => ((impl_ValueText.f bt126.1 bt126.2.1 bt126.2.2).bind fun t129 => (if t129.toList = t125.toList then (some true) else (some false)))) = some r := H
  have A8 := Aside0.mk A80
  clear A80
  replace H := Option.bind_eq_some_iff.mp H
  obtain ⟨⟨t126, t127, t128⟩, A90, H⟩ := H
  replace H : ((impl_ValueText.f t126 t127 t128).bind fun t129 => (if t129.toList = t125.toList then (some true) else (some false))) = some r := H
  have A9 := Aside0.mk A90
  clear A90
  replace H := Option.bind_eq_some_iff.mp H
  obtain ⟨t129, A100, H⟩ := H
  replace H : (if t129.toList = t125.toList then (some true) else (some false)) = some r := H
  have A10 := Aside0.mk A100
  clear A100
  by_cases c11 : t129.toList = t125.toList
  ·rw [if_pos c11] at H
   have c11b0 : (t129.toList == t125.toList) = true := beq_iff_eq.mpr c11
   have c11b1 : (t129.toList != t125.toList) = false := bne_eq_false_iff_eq.mpr c11
   clear c11
   obtain rfl := Option.some.inj H
   go_enter Tryd.func4, Tryd.ntmps4
   go_wp2_with (first | ((with_reducible refine gate_dst (N := 1) rfl ?_); refine bx_ 1 #[.int .i64 a0_0, .int .i64 a0_1, .string a0_2] 25 ?_; intro gb120 hg w12 hbox hb; have BK120 := Aside0.mk (hbox); have GW120 := gw_ hg; have GE120 := gw_ hg; replace HB := bs_ hb; clear hb hbox hg; obtain ⟨hcz13_0, hcz13_1, hcz13_2, hfz13_0, hfz13_1, hfz13_2⟩ := b3_ BK120) | ((with_reducible refine gate_callee (f := 7) rfl ?_); refine gsL_ (some 8) Tryd.func7 #[.agg #[.int .i64 a0_0, .int .i64 a0_1, .string a0_2], .int .i64 1048576] ?_; (with_reducible refine (laws_szValue.calls a0_0 a0_1 a0_2 1048576 t121 _ A2.out).mono ?_); rintro e w14 ⟨rfl, hb⟩; refine ⟨_, rfl, ?_⟩; replace BK120 := bkb_ BK120 hb; replace HB := bs_ hb; (try clear hb); (try clear hb2); (try clear hk); (try clear hi); obtain ⟨hcz15_0, hcz15_1, hcz15_2, hfz15_0, hfz15_1, hfz15_2⟩ := b3_ BK120) | ((with_reducible refine gate_callee (f := 9) rfl ?_); refine gsL_ (some 12) Tryd.func9 #[.agg #[.int .i64 a0_0, .int .i64 a0_1, .string a0_2]] ?_; (with_reducible refine (laws_toValue.calls a0_0 a0_1 a0_2 t122 t123 t124 _ A7.out).mono ?_); rintro e w16 ⟨rfl, hb⟩; refine ⟨_, rfl, ?_⟩; replace BK120 := bkb_ BK120 hb; replace HB := bs_ hb; (try clear hb); (try clear hb2); (try clear hk); (try clear hi)) | ((with_reducible refine gate_callee (f := 8) rfl ?_); refine gsL_ (some 13) Tryd.func8 #[.agg #[.int .i64 t122, .int .i64 t123, .string t124]] ?_; (with_reducible refine (spec_ValueText.calls k t122 t123 t124 t125 _ A8.out).mono ?_); rintro e w17 ⟨rfl, hb⟩; refine ⟨_, rfl, ?_⟩; replace BK120 := bkb_ BK120 hb; replace HB := bs_ hb; (try clear hb); (try clear hb2); (try clear hk); (try clear hi); obtain ⟨hcz18_0, hcz18_1, hcz18_2, hfz18_0, hfz18_1, hfz18_2⟩ := b3_ BK120) | ((with_reducible refine gate_callee (f := 9) rfl ?_); refine gsL_ (some 15) Tryd.func9 #[.agg #[.int .i64 a0_0, .int .i64 a0_1, .string a0_2]] ?_; (with_reducible refine (laws_toValue.calls a0_0 a0_1 a0_2 t126 t127 t128 _ A9.out).mono ?_); rintro e w19 ⟨rfl, hb⟩; refine ⟨_, rfl, ?_⟩; replace BK120 := bkb_ BK120 hb; replace HB := bs_ hb; (try clear hb); (try clear hb2); (try clear hk); (try clear hi)) | ((with_reducible refine gate_callee (f := 10) rfl ?_); refine gsL_ (some 16) Tryd.func10 #[.agg #[.int .i64 t126, .int .i64 t127, .string t128]] ?_; (with_reducible refine (impl_ValueText.calls t126 t127 t128 t129 _ A10.out).mono ?_); rintro e w20 ⟨rfl, hb⟩; refine ⟨_, rfl, ?_⟩; replace BK120 := bkb_ BK120 hb; replace HB := bs_ hb; (try clear hb); (try clear hb2); (try clear hk); (try clear hi)))
   go_ret
   exact ⟨er_, bb_⟩
  ·rw [if_neg c11] at H
   have c11b0 : (t129.toList == t125.toList) = false := beq_eq_false_iff_ne.mpr c11
   have c11b1 : (t129.toList != t125.toList) = true := bne_iff_ne.mpr c11
   obtain rfl := Option.some.inj H
   go_enter Tryd.func4, Tryd.ntmps4
   go_wp2_with (first | ((with_reducible refine gate_dst (N := 1) rfl ?_); refine bx_ 1 #[.int .i64 a0_0, .int .i64 a0_1, .string a0_2] 25 ?_; intro gb120 hg w21 hbox hb; have BK120 := Aside0.mk (hbox); have GW120 := gw_ hg; have GE120 := gw_ hg; replace HB := bs_ hb; clear hb hbox hg; obtain ⟨hcz22_0, hcz22_1, hcz22_2, hfz22_0, hfz22_1, hfz22_2⟩ := b3_ BK120) | ((with_reducible refine gate_callee (f := 7) rfl ?_); refine gsL_ (some 8) Tryd.func7 #[.agg #[.int .i64 a0_0, .int .i64 a0_1, .string a0_2], .int .i64 1048576] ?_; (with_reducible refine (laws_szValue.calls a0_0 a0_1 a0_2 1048576 t121 _ A2.out).mono ?_); rintro e w23 ⟨rfl, hb⟩; refine ⟨_, rfl, ?_⟩; replace BK120 := bkb_ BK120 hb; replace HB := bs_ hb; (try clear hb); (try clear hb2); (try clear hk); (try clear hi); obtain ⟨hcz24_0, hcz24_1, hcz24_2, hfz24_0, hfz24_1, hfz24_2⟩ := b3_ BK120) | ((with_reducible refine gate_callee (f := 9) rfl ?_); refine gsL_ (some 12) Tryd.func9 #[.agg #[.int .i64 a0_0, .int .i64 a0_1, .string a0_2]] ?_; (with_reducible refine (laws_toValue.calls a0_0 a0_1 a0_2 t122 t123 t124 _ A7.out).mono ?_); rintro e w25 ⟨rfl, hb⟩; refine ⟨_, rfl, ?_⟩; replace BK120 := bkb_ BK120 hb; replace HB := bs_ hb; (try clear hb); (try clear hb2); (try clear hk); (try clear hi)) | ((with_reducible refine gate_callee (f := 8) rfl ?_); refine gsL_ (some 13) Tryd.func8 #[.agg #[.int .i64 t122, .int .i64 t123, .string t124]] ?_; (with_reducible refine (spec_ValueText.calls k t122 t123 t124 t125 _ A8.out).mono ?_); rintro e w26 ⟨rfl, hb⟩; refine ⟨_, rfl, ?_⟩; replace BK120 := bkb_ BK120 hb; replace HB := bs_ hb; (try clear hb); (try clear hb2); (try clear hk); (try clear hi); obtain ⟨hcz27_0, hcz27_1, hcz27_2, hfz27_0, hfz27_1, hfz27_2⟩ := b3_ BK120) | ((with_reducible refine gate_callee (f := 9) rfl ?_); refine gsL_ (some 15) Tryd.func9 #[.agg #[.int .i64 a0_0, .int .i64 a0_1, .string a0_2]] ?_; (with_reducible refine (laws_toValue.calls a0_0 a0_1 a0_2 t126 t127 t128 _ A9.out).mono ?_); rintro e w28 ⟨rfl, hb⟩; refine ⟨_, rfl, ?_⟩; replace BK120 := bkb_ BK120 hb; replace HB := bs_ hb; (try clear hb); (try clear hb2); (try clear hk); (try clear hi)) | ((with_reducible refine gate_callee (f := 10) rfl ?_); refine gsL_ (some 16) Tryd.func10 #[.agg #[.int .i64 t126, .int .i64 t127, .string t128]] ?_; (with_reducible refine (impl_ValueText.calls t126 t127 t128 t129 _ A10.out).mono ?_); rintro e w29 ⟨rfl, hb⟩; refine ⟨_, rfl, ?_⟩; replace BK120 := bkb_ BK120 hb; replace HB := bs_ hb; (try clear hb); (try clear hb2); (try clear hk); (try clear hi)))
   go_ret
   exact ⟨er_, bb_⟩

end Go.Proofs.YtmkllhkhiefbnaaDoor.PFnExactValueText
