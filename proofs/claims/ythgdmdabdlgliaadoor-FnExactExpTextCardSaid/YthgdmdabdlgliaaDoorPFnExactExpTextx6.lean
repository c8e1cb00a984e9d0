-- WRITTEN BY xprint.py, a program of this session over the kit's printer: by nobody's hand
-- PRESSED
import Derived.Test.YthgdmdabdlgliaaDoorPress
import Derived.Test.YthgdmdabdlgliaaDoorPFnExactExpTextx0
import Derived.Test.YthgdmdabdlgliaaDoorPFnExactExpTextx1
import Derived.Test.YthgdmdabdlgliaaDoorPFnExactExpTextx5
namespace Go.Proofs.YthgdmdabdlgliaaDoor.PFnExactExpText
open Go.RowKit Go.Proofs.YthgdmdabdlgliaaDoorW.PrintWords Go.Proofs.YthgdmdabdlgliaaDoorW.PrintLast Go.Proofs.YthgdmdabdlgliaaDoorW.PrintMore
set_option linter.unusedVariables false
set_option linter.unusedSimpArgs false

attribute [local go_sem high] eqA29
/-! ### impl_ValueOk: function 24 -/
def impl_ValueOk.f (a0_0 : Int) (a0_1 : Int) (a0_2 : ByteArray) : Option (Bool) := if a0_0 = 0 then (if a0_1 = 0 then (some (a0_2.toList == ([] : List UInt8))) else (some false)) else (if a0_0 = 1 then (some (a0_2.toList == ([] : List UInt8))) else (if a0_0 = 2 then ((impl_within.f a0_1 0 1).bind fun t166 => (if t166 = true then (some (a0_2.toList == ([] : List UInt8))) else (some false))) else (if a0_0 = 3 then (if a0_1 = 0 then (some (decide ((a0_2.size : Int) ≤ 100))) else (some false)) else (some false))))
set_option maxHeartbeats 8000000 in
set_option maxRecDepth 100000 in
theorem impl_ValueOk.calls (a0_0 : Int) (a0_1 : Int) (a0_2 : ByteArray) (r : Bool) (w : World) (h : impl_ValueOk.f a0_0 a0_1 a0_2 = some r) :
  Calls Tryd.prog 24 #[.agg #[.int .i64 a0_0, .int .i64 a0_1, .string a0_2]] w fun e w' => e = .returned (.bool r) ∧ Below w.heap.size w w' := by
 have hu29 := Tryd.underlying29
 have HB := Aside0.mk (Below.refl w.heap.size w)
 have H : (if a0_0 = 0 then (if a0_1 = 0 then (some (a0_2.toList == ([] : List UInt8))) else (some false)) else (if a0_0 = 1 then (some (a0_2.toList == ([] : List UInt8))) else (if a0_0 = 2 then ((impl_within.f a0_1 0 1).bind fun t166 => (if t166 = true then (some (a0_2.toList == ([] : List UInt8))) else (some false))) else (if a0_0 = 3 then (if a0_1 = 0 then (some (decide ((a0_2.size : Int) ≤ 100))) else (some false)) else (some false))))) = some r := h
 clear h
 by_cases c2 : a0_0 = 0
 ·rw [if_pos c2] at H
  have c2b0 : (a0_0 == 0) = true := beq_iff_eq.mpr c2
  have c2b1 : (a0_0 != 0) = false := bne_eq_false_iff_eq.mpr c2
  clear c2
  by_cases c3 : a0_1 = 0
  ·rw [if_pos c3] at H
   have c3b0 : (a0_1 == 0) = true := beq_iff_eq.mpr c3
   have c3b1 : (a0_1 != 0) = false := bne_eq_false_iff_eq.mpr c3
   clear c3
   obtain rfl := Option.some.inj H
   go_enter Tryd.func24, Tryd.ntmps24
   go_wp2_with (first | ((with_reducible refine gate_dst (N := 1) rfl ?_); (try (refine gate_guard (by rfl) ?_; dsimp only)); refine bx_ 1 #[.int .i64 a0_0, .int .i64 a0_1, .string a0_2] 29 ?_; intro gb165 hg w4 hbox hb; have BK165 := Aside0.mk (hbox); have GW165 := gw_ hg; have GE165 := gw_ hg; replace HB := bs_ hb; clear hb hbox hg; obtain ⟨hcz5_0, hcz5_1, hcz5_2, hfz5_0, hfz5_1, hfz5_2⟩ := b3_ BK165))
   go_ret
   exact ⟨er_, bb_⟩
  ·rw [if_neg c3] at H
   have c3b0 : (a0_1 == 0) = false := beq_eq_false_iff_ne.mpr c3
   have c3b1 : (a0_1 != 0) = true := bne_iff_ne.mpr c3
   obtain rfl := Option.some.inj H
   go_enter Tryd.func24, Tryd.ntmps24
   go_wp2_with (first | ((with_reducible refine gate_dst (N := 1) rfl ?_); (try (refine gate_guard (by rfl) ?_; dsimp only)); refine bx_ 1 #[.int .i64 a0_0, .int .i64 a0_1, .string a0_2] 29 ?_; intro gb165 hg w6 hbox hb; have BK165 := Aside0.mk (hbox); have GW165 := gw_ hg; have GE165 := gw_ hg; replace HB := bs_ hb; clear hb hbox hg; obtain ⟨hcz7_0, hcz7_1, hcz7_2, hfz7_0, hfz7_1, hfz7_2⟩ := b3_ BK165))
   go_ret
   exact ⟨er_, bb_⟩
 ·rw [if_neg c2] at H
  have c2b0 : (a0_0 == 0) = false := beq_eq_false_iff_ne.mpr c2
  have c2b1 : (a0_0 != 0) = true := bne_iff_ne.mpr c2
  by_cases c8 : a0_0 = 1
  ·rw [if_pos c8] at H
   have c8b0 : (a0_0 == 1) = true := beq_iff_eq.mpr c8
   have c8b1 : (a0_0 != 1) = false := bne_eq_false_iff_eq.mpr c8
   clear c8
   obtain rfl := Option.some.inj H
   go_enter Tryd.func24, Tryd.ntmps24
   go_wp2_with (first | ((with_reducible refine gate_dst (N := 1) rfl ?_); (try (refine gate_guard (by rfl) ?_; dsimp only)); refine bx_ 1 #[.int .i64 a0_0, .int .i64 a0_1, .string a0_2] 29 ?_; intro gb165 hg w9 hbox hb; have BK165 := Aside0.mk (hbox); have GW165 := gw_ hg; have GE165 := gw_ hg; replace HB := bs_ hb; clear hb hbox hg; obtain ⟨hcz10_0, hcz10_1, hcz10_2, hfz10_0, hfz10_1, hfz10_2⟩ := b3_ BK165))
   go_ret
   exact ⟨er_, bb_⟩
  ·rw [if_neg c8] at H
   have c8b0 : (a0_0 == 1) = false := beq_eq_false_iff_ne.mpr c8
   have c8b1 : (a0_0 != 1) = true := bne_iff_ne.mpr c8
   by_cases c11 : a0_0 = 2
   ·rw [if_pos c11] at H
    have c11b0 : (a0_0 == 2) = true := beq_iff_eq.mpr c11
    have c11b1 : (a0_0 != 2) = false := bne_eq_false_iff_eq.mpr c11
    clear c11
    replace H := Option.bind_eq_some_iff.mp H
    obtain ⟨t166, A120, H⟩ := H
    replace H : (if t166 = true then (some (a0_2.toList == ([] : List UInt8))) else (some false)) = some r := H
    have A12 := Aside0.mk A120
    clear A120
    by_cases c13 : t166 = true
    ·subst c13
     have H1 : (some (a0_2.toList == ([] : List UInt8))) = some r := by rw [if_pos rfl] at H; exact H
     clear H
     have H := H1
     clear H1
     obtain rfl := Option.some.inj H
     go_enter Tryd.func24, Tryd.ntmps24
     go_wp2_with (first | ((with_reducible refine gate_dst (N := 1) rfl ?_); (try (refine gate_guard (by rfl) ?_; dsimp only)); refine bx_ 1 #[.int .i64 a0_0, .int .i64 a0_1, .string a0_2] 29 ?_; intro gb165 hg w14 hbox hb; have BK165 := Aside0.mk (hbox); have GW165 := gw_ hg; have GE165 := gw_ hg; replace HB := bs_ hb; clear hb hbox hg; obtain ⟨hcz15_0, hcz15_1, hcz15_2, hfz15_0, hfz15_1, hfz15_2⟩ := b3_ BK165) | ((with_reducible refine gate_callee (f := 61) rfl ?_); refine gsL_ (some 24) Tryd.func61 #[.int .i64 a0_1, .int .i64 0, .int .i64 1] ?_; (with_reducible refine (impl_within.calls a0_1 0 1 true _ A12.out).mono ?_); rintro e w' ⟨rfl, ⟨nd, rfl⟩⟩; refine ⟨_, rfl, ?_⟩))
     go_ret
     exact ⟨er_, bb_⟩
    ·replace c13 := Bool.eq_false_iff.mpr c13
     subst c13
     have H1 : (some false) = some r := by rw [if_neg (show ¬ (false = true) by decide)] at H; exact H
     clear H
     have H := H1
     clear H1
     obtain rfl := Option.some.inj H
     go_enter Tryd.func24, Tryd.ntmps24
     go_wp2_with (first | ((with_reducible refine gate_dst (N := 1) rfl ?_); (try (refine gate_guard (by rfl) ?_; dsimp only)); refine bx_ 1 #[.int .i64 a0_0, .int .i64 a0_1, .string a0_2] 29 ?_; intro gb165 hg w16 hbox hb; have BK165 := Aside0.mk (hbox); have GW165 := gw_ hg; have GE165 := gw_ hg; replace HB := bs_ hb; clear hb hbox hg; obtain ⟨hcz17_0, hcz17_1, hcz17_2, hfz17_0, hfz17_1, hfz17_2⟩ := b3_ BK165) | ((with_reducible refine gate_callee (f := 61) rfl ?_); refine gsL_ (some 24) Tryd.func61 #[.int .i64 a0_1, .int .i64 0, .int .i64 1] ?_; (with_reducible refine (impl_within.calls a0_1 0 1 false _ A12.out).mono ?_); rintro e w' ⟨rfl, ⟨nd, rfl⟩⟩; refine ⟨_, rfl, ?_⟩))
     go_ret
     exact ⟨er_, bb_⟩
   ·rw [if_neg c11] at H
    have c11b0 : (a0_0 == 2) = false := beq_eq_false_iff_ne.mpr c11
    have c11b1 : (a0_0 != 2) = true := bne_iff_ne.mpr c11
    by_cases c18 : a0_0 = 3
    ·rw [if_pos c18] at H
     have c18b0 : (a0_0 == 3) = true := beq_iff_eq.mpr c18
     have c18b1 : (a0_0 != 3) = false := bne_eq_false_iff_eq.mpr c18
     clear c18
     by_cases c19 : a0_1 = 0
     ·rw [if_pos c19] at H
      have c19b0 : (a0_1 == 0) = true := beq_iff_eq.mpr c19
      have c19b1 : (a0_1 != 0) = false := bne_eq_false_iff_eq.mpr c19
      clear c19
      obtain rfl := Option.some.inj H
      go_enter Tryd.func24, Tryd.ntmps24
      go_wp2_with (first | ((with_reducible refine gate_dst (N := 1) rfl ?_); (try (refine gate_guard (by rfl) ?_; dsimp only)); refine bx_ 1 #[.int .i64 a0_0, .int .i64 a0_1, .string a0_2] 29 ?_; intro gb165 hg w20 hbox hb; have BK165 := Aside0.mk (hbox); have GW165 := gw_ hg; have GE165 := gw_ hg; replace HB := bs_ hb; clear hb hbox hg; obtain ⟨hcz21_0, hcz21_1, hcz21_2, hfz21_0, hfz21_1, hfz21_2⟩ := b3_ BK165))
      go_ret
      exact ⟨er_, bb_⟩
     ·rw [if_neg c19] at H
      have c19b0 : (a0_1 == 0) = false := beq_eq_false_iff_ne.mpr c19
      have c19b1 : (a0_1 != 0) = true := bne_iff_ne.mpr c19
      obtain rfl := Option.some.inj H
      go_enter Tryd.func24, Tryd.ntmps24
      go_wp2_with (first | ((with_reducible refine gate_dst (N := 1) rfl ?_); (try (refine gate_guard (by rfl) ?_; dsimp only)); refine bx_ 1 #[.int .i64 a0_0, .int .i64 a0_1, .string a0_2] 29 ?_; intro gb165 hg w22 hbox hb; have BK165 := Aside0.mk (hbox); have GW165 := gw_ hg; have GE165 := gw_ hg; replace HB := bs_ hb; clear hb hbox hg; obtain ⟨hcz23_0, hcz23_1, hcz23_2, hfz23_0, hfz23_1, hfz23_2⟩ := b3_ BK165))
      go_ret
      exact ⟨er_, bb_⟩
    ·rw [if_neg c18] at H
     have c18b0 : (a0_0 == 3) = false := beq_eq_false_iff_ne.mpr c18
     have c18b1 : (a0_0 != 3) = true := bne_iff_ne.mpr c18
     obtain rfl := Option.some.inj H
     go_enter Tryd.func24, Tryd.ntmps24
     go_wp2_with (first | ((with_reducible refine gate_dst (N := 1) rfl ?_); (try (refine gate_guard (by rfl) ?_; dsimp only)); refine bx_ 1 #[.int .i64 a0_0, .int .i64 a0_1, .string a0_2] 29 ?_; intro gb165 hg w24 hbox hb; have BK165 := Aside0.mk (hbox); have GW165 := gw_ hg; have GE165 := gw_ hg; replace HB := bs_ hb; clear hb hbox hg; obtain ⟨hcz25_0, hcz25_1, hcz25_2, hfz25_0, hfz25_1, hfz25_2⟩ := b3_ BK165))
     go_ret
     exact ⟨er_, bb_⟩

/-! ### impl_isColumn: function 112 -/
def impl_isColumn.f (a0 : Int) : Option (Bool) := (impl_within.f a0 0 11).bind fun t167 => (some t167)
set_option maxHeartbeats 8000000 in
set_option maxRecDepth 100000 in
theorem impl_isColumn.calls (a0 : Int) (r : Bool) (w : World) (h : impl_isColumn.f a0 = some r) :
  Calls Tryd.prog 112 #[.int .i64 a0] w fun e w' => e = .returned (.bool r) ∧ Drawn0 w w' := by
 have H : ((impl_within.f a0 0 11).bind fun t167 => (some t167)) = some r := h
 clear h
 replace H := Option.bind_eq_some_iff.mp H
 obtain ⟨t167, A20, H⟩ := H
 replace H : (some t167) = some r := H
 have A2 := Aside0.mk A20
 clear A20
 obtain rfl := Option.some.inj H
 go_enter Tryd.func112, Tryd.ntmps112
 go_wp2_with (first | ((with_reducible refine gate_callee (f := 61) rfl ?_); refine gsL_ (some 4) Tryd.func61 #[.int .i64 a0, .int .i64 0, .int .i64 11] ?_; (with_reducible refine (impl_within.calls a0 0 11 t167 _ A2.out).mono ?_); rintro e w' ⟨rfl, ⟨nd, rfl⟩⟩; refine ⟨_, rfl, ?_⟩))
 go_ret
 exact ⟨by first | rfl | (simp; done) | (simp [*]; done), by repeat (first | exact Drawn0.refl _ | apply Drawn0.step)⟩

/-! ### impl_null: function 113 -/
def impl_null.f  : Option (Int × Int × ByteArray) := some (0, 0, (⟨#[]⟩ : ByteArray))
set_option maxHeartbeats 8000000 in
set_option maxRecDepth 100000 in
theorem impl_null.calls  (r1 : Int) (r2 : Int) (r3 : ByteArray) (w : World) (h : impl_null.f  = some (r1, r2, r3)) :
  Calls Tryd.prog 113 #[] w fun e w' => e = .returned (.agg #[.int .i64 r1, .int .i64 r2, .string r3]) ∧ Below w.heap.size w w' := by
 have hu29 := Tryd.underlying29
 have HB := Aside0.mk (Below.refl w.heap.size w)
 have H : (some (0, 0, (⟨#[]⟩ : ByteArray))) = some (r1, r2, r3) := h
 clear h
 simp only [Option.some.injEq, Prod.mk.injEq] at H
 obtain ⟨rfl, rfl, rfl⟩ := H
 go_enter Tryd.func113, Tryd.ntmps113
 go_wp2_with (first | ((with_reducible refine gate_dst (N := 0) rfl ?_); refine bx_ 0 #[.int .i64 0, .int .i64 0, .string (⟨#[]⟩ : ByteArray)] 29 ?_; intro gb168 hg w1 hbox hb; have BK168 := Aside0.mk (hbox); have GW168 := gw_ hg; have GE168 := gw_ hg; replace HB := bs_ hb; clear hb hbox hg; obtain ⟨hcz2_0, hcz2_1, hcz2_2, hfz2_0, hfz2_1, hfz2_2⟩ := b3_ BK168))
 refine bodyPost_ret (results_cell_row rfl _ _ gb168 29 #[.int .i64 0, .int .i64 0, .string (⟨#[]⟩ : ByteArray)] (0, 0) _ rfl (bp3_ (bkx_ BK168.out)) Tryd.underlying29 rfl (by kernel_rfl)) rfl ?_
 exact ⟨er_, bb_⟩

/-! ### slices_Index_string_string: function 147 -/
def slices_Index_string_string.l0 : Nat → List ByteArray → ByteArray → Int → Int → Option (Int)
 | 0, _, _, _, _ => none
 | k + 1, x0, x1, x7, x8 => if x8 < x7 then (if 0 ≤ x8 then (if x8 < (x0.length : Int) then (if x1.toList = (rdOf ByteArray.empty x0 x8).toList then (some x8) else (slices_Index_string_string.l0 k x0 x1 x7 (wrap64 (x8 + 1)))) else (none)) else (none)) else (some (-1))
def slices_Index_string_string.f (k : Nat) (l0 : List ByteArray) (a1 : ByteArray) : Option (Int) := slices_Index_string_string.l0 k l0 a1 (l0.length : Int) 0
set_option maxHeartbeats 8000000 in
set_option maxRecDepth 100000 in
theorem slices_Index_string_string.calls (k : Nat) (A0 : Option Addr) (c0 : Nat) (l0 : List ByteArray) (a1 : ByteArray) (r : Int) (w : World) (hr0 : Kd.C Kd.string w A0 l0.length l0) (hc0 : l0.length ≤ c0) (h : slices_Index_string_string.f k l0 a1 = some r) :
  Calls Tryd.prog 147 #[.slice A0 l0.length c0, .string a1] w fun e w' => e = .returned (.int .i64 r) ∧ Drawn0 w w' := by
 have HR0 := Aside0.mk hr0
 have HC0 := Aside0.mk hc0
 clear hr0 hc0
 have H : (slices_Index_string_string.l0 k l0 a1 (l0.length : Int) 0) = some r := h
 clear h
 have H' := Aside0.mk H
 clear H
 go_enter Tryd.func147, Tryd.ntmps147
 go_wp2
 go_loopg [8] k (fun kq v8 w' => ∃ (x8_1 : Int), v8 = .int .i64 x8_1 ∧ Aside0 (slices_Index_string_string.l0 kq l0 a1 (l0.length : Int) x8_1 = some r) ∧ Aside0 (kq ≤ k) ∧ Drawn0 w w')
 case atStart => exact ⟨(0), rs_, H', ⟨Nat.le_refl _⟩, by repeat (first | exact Drawn0.refl _ | apply Drawn0.step)⟩
 case round =>
  clear H'
  try clear c1
  try clear p2
  obtain ⟨x8_1, rfl, HA, HK1, ⟨m1, rfl⟩⟩ := hrel
  cases gk with
  | zero => exact absurd HA.out (by simp [slices_Index_string_string.l0])
  | succ k1 =>
   have H := HA.out
   clear HA
   simp only [slices_Index_string_string.l0] at H
   by_cases c3 : x8_1 < (l0.length : Int)
   ·rw [if_pos c3] at H
    have c3b0 : decide (x8_1 < (l0.length : Int)) = true := decide_eq_true c3
    clear c3
    by_cases c4 : 0 ≤ x8_1
    ·rw [if_pos c4] at H
     have c4b0 : decide (0 ≤ x8_1) = true := decide_eq_true c4
     clear c4
     by_cases c5 : x8_1 < (l0.length : Int)
     ·rw [if_pos c5] at H
      have c5b0 : decide (x8_1 < (l0.length : Int)) = true := decide_eq_true c5
      clear c5
      by_cases c6 : a1.toList = (rdOf ByteArray.empty l0 x8_1).toList
      ·rw [if_pos c6] at H
       have c6b0 : (a1.toList == (rdOf ByteArray.empty l0 x8_1).toList) = true := beq_iff_eq.mpr c6
       have c6b1 : (a1.toList != (rdOf ByteArray.empty l0 x8_1).toList) = false := bne_eq_false_iff_eq.mpr c6
       clear c6
       obtain rfl := Option.some.inj H
       have p169 : 0 ≤ (x8_1 : Int) := of_decide_eq_true (by first | (with_reducible assumption) | assumption)
       have q169 : x8_1 < (l0.length : Int) := of_decide_eq_true (by first | (with_reducible assumption) | assumption)
       obtain ⟨ad169, e169, hx169_0⟩ := Kd.at_string HR0.out x8_1 p169 q169
       cases e169
       replace p169 := eq_true p169
       replace q169 := eq_true q169
       go_wp2
       go_ret
       exact ⟨by first | rfl | (simp; done) | (simp [*]; done), by repeat (first | exact Drawn0.refl _ | apply Drawn0.step)⟩
      ·rw [if_neg c6] at H
       have c6b0 : (a1.toList == (rdOf ByteArray.empty l0 x8_1).toList) = false := beq_eq_false_iff_ne.mpr c6
       have c6b1 : (a1.toList != (rdOf ByteArray.empty l0 x8_1).toList) = true := bne_iff_ne.mpr c6
       have H' := Aside0.mk H
       clear H
       have p169 : 0 ≤ (x8_1 : Int) := of_decide_eq_true (by first | (with_reducible assumption) | assumption)
       have q169 : x8_1 < (l0.length : Int) := of_decide_eq_true (by first | (with_reducible assumption) | assumption)
       obtain ⟨ad169, e169, hx169_0⟩ := Kd.at_string HR0.out x8_1 p169 q169
       cases e169
       replace p169 := eq_true p169
       replace q169 := eq_true q169
       go_wp2
       go_roundg k1
       case measure => have := HK1.out; omega
       case rel => exact ⟨(wrap64 (x8_1 + 1)), rs_, H', ⟨by have := HK1.out; omega⟩, by repeat (first | exact Drawn0.refl _ | apply Drawn0.step)⟩
     ·rw [if_neg c5] at H
      exact absurd H (by simp)
    ·rw [if_neg c4] at H
     exact absurd H (by simp)
   ·rw [if_neg c3] at H
    have c3b0 : decide (x8_1 < (l0.length : Int)) = false := decide_eq_false c3
    clear c3
    obtain rfl := Option.some.inj H
    go_wp2
    go_ret
    exact ⟨by first | rfl | (simp; done) | (simp [*]; done), by repeat (first | exact Drawn0.refl _ | apply Drawn0.step)⟩

/-! ### slices_Contains_string_string: function 133 -/
def slices_Contains_string_string.f (k : Nat) (l0 : List ByteArray) (a1 : ByteArray) : Option (Bool) := (slices_Index_string_string.f k l0 a1).bind fun t170 => (some (decide (t170 ≥ 0)))
set_option maxHeartbeats 8000000 in
set_option maxRecDepth 100000 in
theorem slices_Contains_string_string.calls (k : Nat) (A0 : Option Addr) (c0 : Nat) (l0 : List ByteArray) (a1 : ByteArray) (r : Bool) (w : World) (hr0 : Kd.C Kd.string w A0 l0.length l0) (hc0 : l0.length ≤ c0) (h : slices_Contains_string_string.f k l0 a1 = some r) :
  Calls Tryd.prog 133 #[.slice A0 l0.length c0, .string a1] w fun e w' => e = .returned (.bool r) ∧ Drawn0 w w' := by
 have HR0 := Aside0.mk hr0
 have HC0 := Aside0.mk hc0
 clear hr0 hc0
 have H : ((slices_Index_string_string.f k l0 a1).bind fun t170 => (some (decide (t170 ≥ 0)))) = some r := h
 clear h
 replace H := Option.bind_eq_some_iff.mp H
 obtain ⟨t170, A30, H⟩ := H
 replace H : (some (decide (t170 ≥ 0))) = some r := H
 have A3 := Aside0.mk A30
 clear A30
 obtain rfl := Option.some.inj H
 go_enter Tryd.func133, Tryd.ntmps133
 go_wp2_with (first | ((with_reducible refine gate_callee (f := 147) rfl ?_); refine gsL_ (some 7) Tryd.func147 #[.slice A0 l0.length c0, .string a1] ?_; (with_reducible refine (slices_Index_string_string.calls k _ _ l0 a1 t170 _ ?side1 ?side2 A3.out).mono ?_); (case side1 => exact ck_ HR0.out); (case side2 => exact HC0.out); rintro e w' ⟨rfl, ⟨nd, rfl⟩⟩; refine ⟨_, rfl, ?_⟩))
 go_ret
 exact ⟨by first | rfl | (simp; done) | (simp [*]; done), by repeat (first | exact Drawn0.refl _ | apply Drawn0.step)⟩

/-! ### impl_isOp: function 114 -/
def impl_isOp.f (k : Nat) (a0 : ByteArray) : Option (Bool) := (slices_Contains_string_string.f k (([(⟨#[43]⟩ : ByteArray), (⟨#[45]⟩ : ByteArray), (⟨#[42]⟩ : ByteArray), (⟨#[47]⟩ : ByteArray), (⟨#[61]⟩ : ByteArray), (⟨#[60]⟩ : ByteArray), (⟨#[126]⟩ : ByteArray), (⟨#[97, 110, 100]⟩ : ByteArray), (⟨#[111, 114]⟩ : ByteArray)] : List ByteArray)) a0).bind fun t174 => (some t174)
set_option maxHeartbeats 8000000 in
set_option maxRecDepth 100000 in
theorem impl_isOp.calls (k : Nat) (a0 : ByteArray) (r : Bool) (w : World) (h : impl_isOp.f k a0 = some r) :
  Calls Tryd.prog 114 #[.string a0] w fun e w' => e = .returned (.bool r) ∧ Below w.heap.size w w' := by
 have HB := Aside0.mk (Below.refl w.heap.size w)
 have H : ((slices_Contains_string_string.f k (([(⟨#[43]⟩ : ByteArray), (⟨#[45]⟩ : ByteArray), (⟨#[42]⟩ : ByteArray), (⟨#[47]⟩ : ByteArray), (⟨#[61]⟩ : ByteArray), (⟨#[60]⟩ : ByteArray), (⟨#[126]⟩ : ByteArray), (⟨#[97, 110, 100]⟩ : ByteArray), (⟨#[111, 114]⟩ : ByteArray)] : List ByteArray)) a0).bind fun t174 => (some t174)) = some r := h
 clear h
 obtain ⟨y171, hy171⟩ : ∃ y_ : List ByteArray, y_ = (([(⟨#[43]⟩ : ByteArray), (⟨#[45]⟩ : ByteArray), (⟨#[42]⟩ : ByteArray), (⟨#[47]⟩ : ByteArray), (⟨#[61]⟩ : ByteArray), (⟨#[60]⟩ : ByteArray), (⟨#[126]⟩ : ByteArray), (⟨#[97, 110, 100]⟩ : ByteArray), (⟨#[111, 114]⟩ : ByteArray)] : List ByteArray)) := ⟨_, rfl⟩
 replace H : ((slices_Contains_string_string.f k y171 a0).bind fun t174 => (some t174)) = some r := by first | (rw [hy171]; with_reducible exact H) | (have H2_ := (Option.bind_some _ _).symm.trans H; rw [hy171]; with_reducible exact H2_) | (have H2_ := (Option.bind_some _ _).symm.trans H; with_reducible exact H2_) | with_reducible exact H | (rw [hy171]; exact H) | exact H
 have Ny171 := Aside0.mk hy171
 clear hy171
 replace H := Option.bind_eq_some_iff.mp H
 obtain ⟨t174, A20, H⟩ := H
 replace H : (some t174) = some r := H
 have A2 := Aside0.mk A20
 clear A20
 obtain rfl := Option.some.inj H
 go_enter Tryd.func114, Tryd.ntmps114
 go_wp2_with (first | ((with_reducible refine gate_dst (N := 3) rfl ?_); refine Kd.R_lit Kd.string _ 9 ?hg (N := 3) ?hd (xs := ([(⟨#[43]⟩ : ByteArray), (⟨#[45]⟩ : ByteArray), (⟨#[42]⟩ : ByteArray), (⟨#[47]⟩ : ByteArray), (⟨#[61]⟩ : ByteArray), (⟨#[60]⟩ : ByteArray), (⟨#[126]⟩ : ByteArray), (⟨#[97, 110, 100]⟩ : ByteArray), (⟨#[111, 114]⟩ : ByteArray)] : List ByteArray)) (inner := [.string (⟨#[43]⟩ : ByteArray), .string (⟨#[45]⟩ : ByteArray), .string (⟨#[42]⟩ : ByteArray), .string (⟨#[47]⟩ : ByteArray), .string (⟨#[61]⟩ : ByteArray), .string (⟨#[60]⟩ : ByteArray), .string (⟨#[126]⟩ : ByteArray), .string (⟨#[97, 110, 100]⟩ : ByteArray), .string (⟨#[111, 114]⟩ : ByteArray)]) (ok := fun _ => True) (okp := fun _ => True) ?hr ?hp (fun _ hk => hk) trivial (Below.refl _ _) (Nat.le_refl _) (by simp) ?_; (case hd => rfl); (case hg => rfl); (case hr => first | (go_simp; done) | (go_simp; rfl)); (case hp => exact (Reps.one (show Kd.M Kd.string _ _ _ (⟨#[43]⟩ : ByteArray) [.string (⟨#[43]⟩ : ByteArray)] from rfl) (Reps.one (show Kd.M Kd.string _ _ _ (⟨#[45]⟩ : ByteArray) [.string (⟨#[45]⟩ : ByteArray)] from rfl) (Reps.one (show Kd.M Kd.string _ _ _ (⟨#[42]⟩ : ByteArray) [.string (⟨#[42]⟩ : ByteArray)] from rfl) (Reps.one (show Kd.M Kd.string _ _ _ (⟨#[47]⟩ : ByteArray) [.string (⟨#[47]⟩ : ByteArray)] from rfl) (Reps.one (show Kd.M Kd.string _ _ _ (⟨#[61]⟩ : ByteArray) [.string (⟨#[61]⟩ : ByteArray)] from rfl) (Reps.one (show Kd.M Kd.string _ _ _ (⟨#[60]⟩ : ByteArray) [.string (⟨#[60]⟩ : ByteArray)] from rfl) (Reps.one (show Kd.M Kd.string _ _ _ (⟨#[126]⟩ : ByteArray) [.string (⟨#[126]⟩ : ByteArray)] from rfl) (Reps.one (show Kd.M Kd.string _ _ _ (⟨#[97, 110, 100]⟩ : ByteArray) [.string (⟨#[97, 110, 100]⟩ : ByteArray)] from rfl) (Reps.one (show Kd.M Kd.string _ _ _ (⟨#[111, 114]⟩ : ByteArray) [.string (⟨#[111, 114]⟩ : ByteArray)] from rfl) (Reps.none _ _))))))))))); intro v172 w3 ho4 hb hg_ hnew_; clear hg_ hnew_; (first | rw [← Ny171.out] at ho4 | (simp only [Int.reduceToNat] at ho4; rw [← Ny171.out] at ho4)); have HO173 := Aside0.mk (Kd.R_lower ho4 (below_size bb_)); replace HB := bs_ hb; clear hb ho4; obtain ⟨Ao5, co5, eo5⟩ := Kd.R_slice HO173.out; subst eo5) | ((with_reducible refine gate_callee (f := 133) rfl ?_); refine gsL_ (some 5) Tryd.func133 #[.slice Ao5 y171.length co5, .string a0] ?_; (with_reducible refine (slices_Contains_string_string.calls k _ _ y171 a0 t174 _ ?side1 ?side2 A2.out).mono ?_); (case side1 => exact ck_ (Kd.R_reads' HO173.out).2.2); (case side2 => exact (Kd.R_reads' HO173.out).2.1); rintro e w' ⟨rfl, ⟨nd, rfl⟩⟩; refine ⟨_, rfl, ?_⟩))
 go_ret
 exact ⟨er_, bb_⟩

/-! ### slices.IndexFunc[[]loop.example/g00312/impl.Exp,loop.example/g00312/impl.Exp]: function 148 -/
set_option maxHeartbeats 4000000 in
set_option maxRecDepth 100000 in
theorem IndexFunc_T32.calls (f : S32 → Option Bool) (g : Nat) (lb : Array Value) (eg : ∀ args w, (callFunc g args).run Tryd.prog w = .ok (.enter g args) w) (A : Option Addr) (c : Nat) (xs : List S32) (r : Int) (w : World) (hr : Kd.C k32 w A xs.length xs) (hp : CB Tryd.prog k32 (fun cs => Value.agg cs.toArray) g lb f xs w) (h : idxO f xs 0 = some r) :
  Calls Tryd.prog 148 #[.slice A xs.length c, .func (.func g) #[] lb] w fun e w' => e = .returned (.int .i64 r) ∧ Below w.heap.size w w' := by
 have hbig : xs.length ≤ 9223372036854775807 := hr.2.1
 have HR := Aside0.mk hr
 have HP := Aside0.mk hp
 have HX := Aside0.mk h
 clear hr hp h
 go_enter Tryd.func148, Tryd.ntmps148
 go_wp2
 go_loopg [5, 8] xs.length (fun gg _ s8 wr => ∃ x : Int, s8 = .int .i64 x ∧ Aside0 (0 ≤ x ∧ x ≤ xs.length ∧ xs.length - x.toNat ≤ gg ∧ idxO f (xs.drop x.toNat) x = some r ∧ Below w.heap.size w wr))
 case atStart => exact ⟨0, rfl, ⟨by omega, by omega, by simp, by simpa using HX.out, Below.refl _ _⟩⟩
 case round =>
  obtain ⟨x, rfl, HI⟩ := hrel
  obtain ⟨x0, x1, hg, hi, BW⟩ := HI.out
  by_cases hlt : x < (xs.length : Int)
  ·have c4 : decide (x < (xs.length : Int)) = true := decide_eq_true hlt
   have c5 : decide (0 ≤ x) = true := decide_eq_true x0
   obtain ⟨ad, cs, rfl, hl, hK, hcell⟩ := Kd.C_get (Kd.C_below HR.out BW) (z32 : S32) x x0 hlt
   obtain ⟨b, hb, hm, ht, hf⟩ := idxO_step (z32 : S32) x0 hlt hi
   generalize xs.getD x.toNat (z32 : S32) = p at hK hb hm
   have hK0 := hK
   obtain ⟨aA6, aC6, rfl, _, _⟩ := k32_open hK
   have hcell1 : ∀ j u, ([(.int .i64 p.f0), (.int .i64 p.f1), (.int .i64 p.f2.f0), (.int .i64 p.f2.f1), (.string p.f2.f2), (.string p.f3), (.slice aA6 p.f4.length aC6)] : List Value)[j]? = some u → wr.cell? (ad.add (x.toNat * 7 + j)) = some u := hcell
   have hc0 : wr.cell? (ad.add (x.toNat * 7)) = some (.int .i64 p.f0) := hcell1 0 _ rfl
   have hc1 : wr.cell? ⟨(ad.add (x.toNat * 7)).block, (ad.add (x.toNat * 7)).off + 1, none⟩ = some (.int .i64 p.f1) := by rw [← add_field _ _ 1 (by omega)]; exact hcell1 1 _ rfl
   have hc2 : wr.cell? ⟨(ad.add (x.toNat * 7)).block, (ad.add (x.toNat * 7)).off + 2, none⟩ = some (.int .i64 p.f2.f0) := by rw [← add_field _ _ 2 (by omega)]; exact hcell1 2 _ rfl
   have hc3 : wr.cell? ⟨(ad.add (x.toNat * 7)).block, (ad.add (x.toNat * 7)).off + 3, none⟩ = some (.int .i64 p.f2.f1) := by rw [← add_field _ _ 3 (by omega)]; exact hcell1 3 _ rfl
   have hc4 : wr.cell? ⟨(ad.add (x.toNat * 7)).block, (ad.add (x.toNat * 7)).off + 4, none⟩ = some (.string p.f2.f2) := by rw [← add_field _ _ 4 (by omega)]; exact hcell1 4 _ rfl
   have hc5 : wr.cell? ⟨(ad.add (x.toNat * 7)).block, (ad.add (x.toNat * 7)).off + 5, none⟩ = some (.string p.f3) := by rw [← add_field _ _ 5 (by omega)]; exact hcell1 5 _ rfl
   have hc6 : wr.cell? ⟨(ad.add (x.toNat * 7)).block, (ad.add (x.toNat * 7)).off + 6, none⟩ = some (.slice aA6 p.f4.length aC6) := by rw [← add_field _ _ 6 (by omega)]; exact hcell1 6 _ rfl
   have hcall : Calls Tryd.prog g (#[(.agg #[(.int .i64 p.f0), (.int .i64 p.f1), (.int .i64 p.f2.f0), (.int .i64 p.f2.f1), (.string p.f2.f2), (.string p.f3), (.slice aA6 p.f4.length aC6)])] ++ lb) wr (fun e w' => e = .returned (.bool b) ∧ Below wr.heap.size wr w') := HP.out wr _ _ b BW hm hK0 hb
   cases b with
   | true =>
    have HJ := Aside0.mk (And.intro (ht rfl) BW)
    clear hcell hcell1 hK hb hm ht hf hi BW HI hg hl hK0
    go_wp2_with (go_at_fn g; refine hcall.mono ?_; rintro e w' ⟨rfl, hb'⟩)
    go_ret
    exact ⟨ret_int_eq HJ.out.1.symm, HJ.out.2.trans (hb'.mono HJ.out.2.size)⟩
   | false =>
    have HJ := Aside0.mk (And.intro hg (And.intro (hf rfl) BW))
    clear hcell hcell1 hK hb hm ht hf hi BW HI hg hl hK0
    go_wp2_with (go_at_fn g; refine hcall.mono ?_; rintro e w' ⟨rfl, hb'⟩)
    go_roundg (xs.length - (x.toNat + 1))
    case measure => have := HJ.out.1; omega
    case rel => exact ⟨x + 1, by go_num, ⟨by omega, by omega, by omega, HJ.out.2.1, HJ.out.2.2.trans (hb'.mono HJ.out.2.2.size)⟩⟩
  ·have c4 : decide (x < (xs.length : Int)) = false := decide_eq_false hlt
   have hr : r = -1 := idxO_end hlt hi
   clear hi HI
   subst hr
   go_wp2
   go_ret
   exact ⟨rfl, BW⟩

/-! ### slices.ContainsFunc[[]loop.example/g00312/impl.Exp,loop.example/g00312/impl.Exp]: function 134 -/
set_option maxHeartbeats 4000000 in
set_option maxRecDepth 100000 in
theorem ContainsFunc_T32.calls (f : S32 → Option Bool) (g : Nat) (lb : Array Value) (eg : ∀ args w, (callFunc g args).run Tryd.prog w = .ok (.enter g args) w) (A : Option Addr) (c : Nat) (xs : List S32) (r : Int) (w : World) (hr : Kd.C k32 w A xs.length xs) (hp : CB Tryd.prog k32 (fun cs => Value.agg cs.toArray) g lb f xs w) (h : idxO f xs 0 = some r) :
  Calls Tryd.prog 134 #[.slice A xs.length c, .func (.func g) #[] lb] w fun e w' => e = .returned (.bool (decide (r ≥ 0))) ∧ Below w.heap.size w w' := by
 have hcall := IndexFunc_T32.calls f g lb eg A c xs r w hr hp h
 clear hr hp h
 go_enter Tryd.func134, Tryd.ntmps134
 go_wp2_with (go_at_call 148; refine hcall.mono ?_; rintro e w' ⟨rfl, hb'⟩)
 go_ret
 exact ⟨rfl, hb'⟩

-- NOT PRINTED: function 135 (impl_Exp_1)

/-! ### loop.example/g00312/impl.areAll[loop.example/g00312/impl.Exp]: function 115 -/
set_option maxHeartbeats 4000000 in
set_option maxRecDepth 100000 in
theorem areAll_T32.not (f : S32 → Option Bool) (g : Nat) (lb : Array Value) (eg : ∀ args w, (callFunc g args).run Tryd.prog w = .ok (.enter g args) w) (B : Nat) (xs : List S32) (w : World) (hB : B < w.heap.size) (hp : CB Tryd.prog k32 (fun cs => Value.agg cs.toArray) g lb f xs w) (hc : w.cell? ⟨B, 0, none⟩ = some (.func (.func g) #[] lb)) :
  CB Tryd.prog k32 (fun cs => Value.agg cs.toArray) 135 #[.pointer (some ⟨B, 0, none⟩)] (fun x => (f x).map not) xs w := by
   intro W x cs b hb hm hK hf
   obtain ⟨t, ht, rfl⟩ := Option.map_eq_some_iff.1 hf
   have hK0 := hK
   have hc' : W.cell? ⟨B, 0, none⟩ = some (.func (.func g) #[] lb) := (hb.cell (p := ⟨B, 0, none⟩) hB).trans hc
   obtain ⟨aA6, aC6, rfl, _, _⟩ := k32_open hK
   have hcall : ∀ W1, Below W.heap.size W W1 → Calls Tryd.prog g (#[(.agg #[(.int .i64 x.f0), (.int .i64 x.f1), (.int .i64 x.f2.f0), (.int .i64 x.f2.f1), (.string x.f2.f2), (.string x.f3), (.slice aA6 x.f4.length aC6)])] ++ lb) W1 (fun e w' => e = .returned (.bool t) ∧ Below W1.heap.size W1 w') := fun W1 h1 => hp W1 x _ t (hb.trans (h1.mono hb.size)) hm (Kd.K_below _ h1 hK0) ht
   have hcd := fun o : Obj => cell_alloc_old o hc'
   have HN := Aside0.mk (show B ≠ W.heap.size from fun e => by have := hb.size; omega)
   clear hp hf hK hK0 hm hb hc ht 
   have hBW := HN.out
   have hBW' := Ne.symm hBW
   show Calls Tryd.prog 135 #[(.agg #[(.int .i64 x.f0), (.int .i64 x.f1), (.int .i64 x.f2.f0), (.int .i64 x.f2.f1), (.string x.f2.f2), (.string x.f3), (.slice aA6 x.f4.length aC6)]), .pointer (some ⟨B, 0, none⟩)] W _
   go_enter Tryd.func135, Tryd.ntmps135
   go_wp2_with (go_at_fn g; refine (hcall _ (by first | exact Below.refl _ _ | exact below_alloc (Below.refl _ _) _)).mono ?_; rintro e w' ⟨rfl, hb'⟩)
   go_ret
   exact ⟨rfl, by first | exact hb' | exact (below_alloc (Below.refl _ _) _ : Below W.heap.size W _).trans (hb'.mono (by simp))⟩
set_option maxHeartbeats 4000000 in
set_option maxRecDepth 100000 in
theorem areAll_T32.calls (f : S32 → Option Bool) (g : Nat) (lb : Array Value) (eg : ∀ args w, (callFunc g args).run Tryd.prog w = .ok (.enter g args) w) (A : Option Addr) (c : Nat) (xs : List S32) (r : Bool) (w : World) (hr : Kd.C k32 w A xs.length xs) (hp : CB Tryd.prog k32 (fun cs => Value.agg cs.toArray) g lb f xs w) (h : allO f xs = some r) :
  Calls Tryd.prog 115 #[.slice A xs.length c, .func (.func g) #[] lb] w fun e w' => e = .returned (.bool r) ∧ Below w.heap.size w w' := by
 obtain ⟨j, hj, hjr⟩ := idxO_not h 0 (Int.le_refl _)
 have e_l : ∀ args w, (callFunc 135 args).run Tryd.prog w = .ok (.enter 135 args) w := enters_of Tryd.func135 (by kernel_rfl) rfl
 have hB0 : Below w.heap.size w (w.alloc (.cells #[.func (.func g) #[] lb] 76)) := below_alloc (Below.refl _ _) _
 have hp1 := CB.later hB0 hp
 have hnot := areAll_T32.not f g lb eg w.heap.size xs _ (by simp) hp1 (by simp)
 have hcall := ContainsFunc_T32.calls _ 135 _ e_l A c xs j _ (Kd.C_below hr hB0) hnot hj
 have HJ := Aside0.mk hjr
 clear hr hp h hjr hj hp1 hnot hB0
 go_enter Tryd.func115, Tryd.ntmps115
 go_wp2_with (go_at_call 134; refine hcall.mono ?_; rintro e w' ⟨rfl, hb'⟩)
 go_ret
 exact ⟨ret_bool_eq (by rw [HJ.out]; cases r <;> rfl), (below_alloc (Below.refl _ _) _ : Below w.heap.size w _).trans (hb'.mono (by simp))⟩

-- NOT PRINTED: function 116 (impl_isExp_1)

/-! ### impl_isExp: function 87 -/
-- by hand
/-- A value that is nothing. -/
def nullB (v0 v1 : Int) (v2 : ByteArray) : Bool := v0 == 0 && (v1 == 0 && (v2.toList == ([] : List UInt8)))
/-- What the kind of an expression asks: so many kids, and whether all else is right. -/
def isExpS (k : Nat) (a n v0 v1 : Int) (v2 op : ByteArray) : Option (Int × Bool) :=
  if a = 0 then (impl_isColumn.f n).bind fun b => some (0, b && nullB v0 v1 v2 && (op.toList == ([] : List UInt8)))
  else if a = 1 then (impl_ValueOk.f v0 v1 v2).bind fun b => some (0, b && (n == 0) && (op.toList == ([] : List UInt8)))
  else if a = 2 then (impl_isOp.f k op).bind fun b => some (2, b && (n == 0) && nullB v0 v1 v2)
  else if a = 3 ∨ a = 4 then some (1, (n == 0) && nullB v0 v1 v2 && (op.toList == ([] : List UInt8)))
  else some (0, false)
theorem isExpS_0 {k : Nat} {a n v0 v1 : Int} {v2 op : ByteArray} {b : Bool} (h : a = 0) (hb : impl_isColumn.f n = some b) : isExpS k a n v0 v1 v2 op = some (0, b && nullB v0 v1 v2 && (op.toList == ([] : List UInt8))) := by unfold isExpS; rw [if_pos h, hb]; rfl
theorem isExpS_1 {k : Nat} {a n v0 v1 : Int} {v2 op : ByteArray} {b : Bool} (h : a = 1) (hb : impl_ValueOk.f v0 v1 v2 = some b) : isExpS k a n v0 v1 v2 op = some (0, b && (n == 0) && (op.toList == ([] : List UInt8))) := by unfold isExpS; rw [if_neg (by omega), if_pos h, hb]; rfl
theorem isExpS_2 {k : Nat} {a n v0 v1 : Int} {v2 op : ByteArray} {b : Bool} (h : a = 2) (hb : impl_isOp.f k op = some b) : isExpS k a n v0 v1 v2 op = some (2, b && (n == 0) && nullB v0 v1 v2) := by unfold isExpS; rw [if_neg (by omega), if_neg (by omega), if_pos h, hb]; rfl
theorem isExpS_3 {k : Nat} {a n v0 v1 : Int} {v2 op : ByteArray} (h : a = 3 ∨ a = 4) : isExpS k a n v0 v1 v2 op = some (1, (n == 0) && nullB v0 v1 v2 && (op.toList == ([] : List UInt8))) := by unfold isExpS; rw [if_neg (by omega), if_neg (by omega), if_neg (by omega), if_pos h]
theorem isExpS_5 {k : Nat} {a n v0 v1 : Int} {v2 op : ByteArray} (h0 : ¬ a = 0) (h1 : ¬ a = 1) (h2 : ¬ a = 2) (h3 : ¬ (a = 3 ∨ a = 4)) : isExpS k a n v0 v1 v2 op = some (0, false) := by unfold isExpS; rw [if_neg h0, if_neg h1, if_neg h2, if_neg h3]
def impl_isExp.f : Nat → Int → Int → Int → Int → ByteArray → ByteArray → List S32 → Int → Option Bool
  | 0, _, _, _, _, _, _, _, _ => none
  | k + 1, a, n, v0, v1, v2, op, kids, d => (isExpS k a n v0 v1 v2 op).bind fun p => if p.2 = true then (if d ≤ 12 then (if (kids.length : Int) = p.1 then allO (fun x => impl_isExp.f k x.f0 x.f1 x.f2.f0 x.f2.f1 x.f2.f2 x.f3 x.f4 (wrap64 (d + 1))) kids else some false) else some false) else some false
set_option maxHeartbeats 4000000 in
set_option maxRecDepth 100000 in
theorem isExp_cb (k : Nat) (d : Int) (gd : Nat) (w0 : World) (ih : ∀ (a n v0 v1 : Int) (v2 op : ByteArray) (A : Option Addr) (c : Nat) (l : List S32) (d : Int) (r : Bool) (w : World) (hr : Kd.C k32 w A l.length l) (hc : l.length ≤ c) (h : impl_isExp.f k a n v0 v1 v2 op l d = some r),
    Calls Tryd.prog 87 #[.agg #[.int .i64 a, .int .i64 n, .int .i64 v0, .int .i64 v1, .string v2, .string op, .slice A l.length c], .int .i64 d] w fun e w' => e = .returned (.bool r) ∧ Below w.heap.size w w')
    (xs : List S32) (hc : w0.cell? ⟨gd, 0, none⟩ = some (.int .i64 d)) (hg : gd < w0.heap.size) : CB Tryd.prog k32 (fun cs => Value.agg cs.toArray) 116 #[.pointer (some ⟨gd, 0, none⟩)] (fun x => impl_isExp.f k x.f0 x.f1 x.f2.f0 x.f2.f1 x.f2.f2 x.f3 x.f4 (wrap64 (d + 1))) xs w0 := by
  intro W x cs b hW _ hK hf
  obtain ⟨A6, c6, rfl, hl6, hg6⟩ := k32_open hK
  have hcd : W.cell? ⟨gd, 0, none⟩ = some (.int .i64 d) := (hW.cell (p := ⟨gd, 0, none⟩) hg).trans hc
  have hlt : gd < W.heap.size := Nat.lt_of_lt_of_le hg hW.size
  have hne : gd ≠ W.heap.size := by omega
  have hu := Tryd.underlying32
  have hcall := fun V (hV : Below W.heap.size W V) => ih x.f0 x.f1 x.f2.f0 x.f2.f1 x.f2.f2 x.f3 A6 c6 x.f4 (wrap64 (d + 1)) b V (Kd.C_below hg6 hV) hl6 hf
  have HC := Aside0.mk hcall
  have hcd' := fun o : Obj => cell_alloc_old o hcd
  clear hK hf hcall ih hg6 hW hc hg
  show Calls Tryd.prog 116 #[.agg #[.int .i64 x.f0, .int .i64 x.f1, .int .i64 x.f2.f0, .int .i64 x.f2.f1, .string x.f2.f2, .string x.f3, .slice A6 x.f4.length c6], .pointer (some ⟨gd, 0, none⟩)] W _
  go_enter Tryd.func116, Tryd.ntmps116
  go_wp2_with (go_at_call 87; (try simp only [i64_w]); refine (HC.out _ (by repeat (first | exact Below.refl _ _ | apply below_alloc | apply pw_below_drewN | apply below_drew1))).mono ?_; rintro e w' ⟨rfl, hb'⟩)
  go_ret
  exact ⟨rfl, (by repeat (first | exact Below.refl _ _ | apply below_alloc | apply pw_below_drewN | apply below_drew1) : Below W.heap.size W _).trans (hb'.mono (by simp))⟩
set_option maxHeartbeats 8000000 in
set_option maxRecDepth 100000 in
theorem impl_isExp.calls (k : Nat) : ∀ (a n v0 v1 : Int) (v2 op : ByteArray) (A : Option Addr) (c : Nat) (l : List S32) (d : Int) (r : Bool) (w : World) (hr : Kd.C k32 w A l.length l) (hc : l.length ≤ c) (h : impl_isExp.f k a n v0 v1 v2 op l d = some r),
    Calls Tryd.prog 87 #[.agg #[.int .i64 a, .int .i64 n, .int .i64 v0, .int .i64 v1, .string v2, .string op, .slice A l.length c], .int .i64 d] w fun e w' => e = .returned (.bool r) ∧ Below w.heap.size w w' := by
  induction k with
  | zero => intro a n v0 v1 v2 op A c l d r w hr hc h; exact absurd h (by simp [impl_isExp.f])
  | succ k ih =>
  intro a n v0 v1 v2 op A c l d r w hr hc h
  obtain ⟨⟨kn, rt⟩, hs, h⟩ := Option.bind_eq_some_iff.1 h
  replace h : (if rt = true then (if d ≤ 12 then (if (l.length : Int) = kn then allO (fun x => impl_isExp.f k x.f0 x.f1 x.f2.f0 x.f2.f1 x.f2.f2 x.f3 x.f4 (wrap64 (d + 1))) l else some false) else some false) else some false) = some r := h
  have hu := Tryd.underlying32
  have hu2 := Tryd.underlying29
  have HS := Aside0.mk hs
  have HH := Aside0.mk h
  have HR := Aside0.mk hr
  have HC := Aside0.mk hc
  have IH := Aside0.mk ih
  have HB := Aside0.mk (Below.refl w.heap.size w)
  clear hs h hr hc ih
  go_enter Tryd.func87, Tryd.ntmps87
  go_upto_block 0 with (first
    | ((with_reducible refine gate_dst (N := 2) rfl ?_); refine bx_ 2 #[.int .i64 a, .int .i64 n, .int .i64 v0, .int .i64 v1, .string v2, .string op, .slice A l.length c] 32 ?_; intro g hg w1 hbox hb; have BK := Aside0.mk hbox; have GW := gw_ hg; replace HB := bs_ hb; clear hb hbox hg)
    | ((with_reducible refine gate_dst (N := 3) rfl ?_); refine bx_ 3 #[.int .i64 d] 3 ?_; intro gd hg w2 hbox hb; have BD := Aside0.mk hbox; have GD := gw_ hg; replace BK := bkb_ BK hb; replace HB := bs_ hb; clear hb hbox hg; have b0 := bc_ (v := (.int .i64 a)) BK 0))
  clear b0
  (try simp only [Act.put, List.setIfInBounds_toArray, List.set_cons_zero, List.set_cons_succ])
  go_cut [5, 6] (fun v5 v6 wc => ∃ (kn : Int) (rt : Bool), v5 = .int .i64 kn ∧ v6 = .bool rt ∧ Aside0 (isExpS k a n v0 v1 v2 op = some (kn, rt)) ∧ Aside0 (wc.heap[g]? = some (.cells #[.int .i64 a, .int .i64 n, .int .i64 v0, .int .i64 v1, .string v2, .string op, .slice A l.length c] 32 (0, 0))) ∧ Aside0 (wc.heap[gd]? = some (.cells #[.int .i64 d] 3 (0, 0))) ∧ Aside0 (Below w.heap.size w wc))
  case first =>
    clear IH HH HR HC
    have h := HS.out
    unfold isExpS at h
    by_cases a0 : a = 0
    · have d0 : (a == 0) = true := beq_iff_eq.mpr a0
      rw [if_pos a0] at h
      obtain ⟨b, hb, _⟩ := Option.bind_eq_some_iff.1 h
      have HE := Aside0.mk (isExpS_0 (k := k) (v0 := v0) (v1 := v1) (v2 := v2) (op := op) a0 hb)
      have HC := Aside0.mk hb
      clear h hb a0 HS
      go_wp2
      replace BK := Aside0.mk (blk_drew BK.out)
      replace BD := Aside0.mk (blk_drew BD.out)
      replace HB := Aside0.mk (below_drew1 HB.out)
      refine start_ (n := 15) (S := fun w' => w'.cell? ⟨g, 1, none⟩ = some (.int .i64 n) ∧ w'.cell? ⟨g, 2, none⟩ = some (.int .i64 v0) ∧ w'.cell? ⟨g, 3, none⟩ = some (.int .i64 v1) ∧ w'.cell? ⟨g, 4, none⟩ = some (.string v2) ∧ w'.cell? ⟨g, 5, none⟩ = some (.string op)) (ds := []) (tf 0 15) (by kernel_rfl) rfl rfl ⟨bc_ BK 1, bc_ BK 2, bc_ BK 3, bc_ BK 4, bc_ BK 5⟩ (fun hHeld => ?_)
      generalize w2.drew = wd at BK BD HB hHeld ⊢
      refine plk_ ?_
      refine tlk_ ?_
      refine onek_ (fun K hK => ?_)
      refine gs_ Tryd.func112 #[.int .i64 n] ?_
      refine (impl_isColumn.calls n b _ HC.out).mono ?_
      rintro e w' ⟨rfl, ⟨nd, rfl⟩⟩
      refine ⟨_, rfl, ?_⟩
      replace BK := Aside0.mk (blk_drewN BK.out nd); replace BD := Aside0.mk (blk_drewN BD.out nd); replace HB := Aside0.mk (pw_below_drewN HB.out nd)
      refine hK.out _ _ ⟨bc_ BK 1, bc_ BK 2, bc_ BK 3, bc_ BK 4, bc_ BK 5⟩ (fun hHeld => ?_); clear hK K; refine nm_ ?_
      cases b with
      | false =>
        repeat (first | (refine pdk_ ?_) | (refine plk_ ?_) | (refine tlk_ ?_))
        refine done_ (by kernel_rfl) ?_
        go_wp2
        go_meet
        case rel => exact ⟨_, _, rfl, rfl, ⟨by first | exact HE.out | (rw [HE.out]; simp [nullB, *])⟩, BK, BD, HB⟩
      | true =>
        cases hz : nullB v0 v1 v2 with
        | false =>
          have hz0 : (v0 == 0 && (v1 == 0 && v2.toList.isEmpty)) = false := by simpa [nullB] using hz
          have HZ := Aside0.mk hz
          clear hz
          repeat (first | (refine pdk_ ?_) | (refine plk_ ?_) | (refine tlk_ ?_))
          refine onek_ (fun K hK => ?_)
          refine gs_ Tryd.func113 #[] ?_
          refine (impl_null.calls 0 0 ⟨#[]⟩ _ rfl).mono ?_
          rintro e w' ⟨rfl, hb⟩
          refine ⟨_, rfl, ?_⟩
          replace BK := bkb_ BK hb; replace BD := bkb_ BD hb; replace HB := bs_ hb; clear hb
          refine hK.out _ _ ⟨bc_ BK 1, bc_ BK 2, bc_ BK 3, bc_ BK 4, bc_ BK 5⟩ (fun hHeld => ?_); clear hK K; refine nm_ ?_
          repeat (first | (refine pdk_ ?_) | (refine plk_ ?_) | (refine tlk_ ?_))
          refine done_ (by kernel_rfl) ?_
          go_wp2
          go_meet
          case rel => exact ⟨_, _, rfl, rfl, ⟨by first | exact HE.out | (rw [HE.out]; simp [HZ.out])⟩, BK, BD, HB⟩
        | true =>
          have hz0 : (v0 == 0 && (v1 == 0 && v2.toList.isEmpty)) = true := by simpa [nullB] using hz
          have HZ := Aside0.mk hz
          clear hz
          repeat (first | (refine pdk_ ?_) | (refine plk_ ?_) | (refine tlk_ ?_))
          refine onek_ (fun K hK => ?_)
          refine gs_ Tryd.func113 #[] ?_
          refine (impl_null.calls 0 0 ⟨#[]⟩ _ rfl).mono ?_
          rintro e w' ⟨rfl, hb⟩
          refine ⟨_, rfl, ?_⟩
          replace BK := bkb_ BK hb; replace BD := bkb_ BD hb; replace HB := bs_ hb; clear hb
          refine hK.out _ _ ⟨bc_ BK 1, bc_ BK 2, bc_ BK 3, bc_ BK 4, bc_ BK 5⟩ (fun hHeld => ?_); clear hK K; refine nm_ ?_
          repeat (first | (refine pdk_ ?_) | (refine plk_ ?_) | (refine tlk_ ?_))
          refine done_ (by kernel_rfl) ?_
          go_wp2
          go_meet
          case rel => exact ⟨_, _, rfl, rfl, ⟨by first | exact HE.out | (rw [HE.out]; simp [HZ.out])⟩, BK, BD, HB⟩
    have d0 : (a == 0) = false := beq_eq_false_iff_ne.mpr a0
    by_cases a1 : a = 1
    · have d1 : (a == 1) = true := beq_iff_eq.mpr a1
      rw [if_neg a0, if_pos a1] at h
      obtain ⟨b, hb, _⟩ := Option.bind_eq_some_iff.1 h
      have HE := Aside0.mk (isExpS_1 (k := k) (n := n) (op := op) a1 hb)
      have HC := Aside0.mk hb
      clear h hb a0 a1 HS
      have b1 := bc_ (v := (.int .i64 v0)) BK 2
      have b2 := bc_ (v := (.int .i64 v1)) BK 3
      have b3 := bc_ (v := (.string v2)) BK 4
      cases b with
      | false =>
        go_wp2_with (go_at_call 24; refine (impl_ValueOk.calls v0 v1 v2 false _ HC.out).mono ?_; rintro e w' ⟨rfl, hb⟩; replace BK := bkb_ BK hb; replace BD := bkb_ BD hb; replace HB := bs_ hb; clear hb)
        go_meet
        case rel => exact ⟨_, _, rfl, rfl, ⟨by rw [HE.out]; simp⟩, BK, BD, HB⟩
      | true =>
        cases hn : (n == 0) with
        | false =>
          go_wp2_with (go_at_call 24; refine (impl_ValueOk.calls v0 v1 v2 true _ HC.out).mono ?_; rintro e w' ⟨rfl, hb⟩; replace BK := bkb_ BK hb; replace BD := bkb_ BD hb; replace HB := bs_ hb; clear hb; have b4 := bc_ (v := (.int .i64 n)) BK 1; have b5 := bc_ (v := (.string op)) BK 5)
          go_meet
          case rel => exact ⟨_, _, rfl, rfl, ⟨by rw [HE.out, hn]; simp⟩, BK, BD, HB⟩
        | true =>
          go_wp2_with (go_at_call 24; refine (impl_ValueOk.calls v0 v1 v2 true _ HC.out).mono ?_; rintro e w' ⟨rfl, hb⟩; replace BK := bkb_ BK hb; replace BD := bkb_ BD hb; replace HB := bs_ hb; clear hb; have b4 := bc_ (v := (.int .i64 n)) BK 1; have b5 := bc_ (v := (.string op)) BK 5)
          go_meet
          case rel => exact ⟨_, _, rfl, rfl, ⟨by rw [HE.out, hn]; simp⟩, BK, BD, HB⟩
    by_cases a2 : a = 2
    · have d2 : (a == 2) = true := beq_iff_eq.mpr a2
      rw [if_neg a0, if_neg a1, if_pos a2] at h
      obtain ⟨b, hb, _⟩ := Option.bind_eq_some_iff.1 h
      have HE := Aside0.mk (isExpS_2 (n := n) (v0 := v0) (v1 := v1) (v2 := v2) a2 hb)
      have HC := Aside0.mk hb
      have d1 : (a == 1) = false := beq_eq_false_iff_ne.mpr a1
      clear h hb a0 a1 a2 HS
      go_wp2
      replace BK := Aside0.mk (blk_drew BK.out)
      replace BD := Aside0.mk (blk_drew BD.out)
      replace HB := Aside0.mk (below_drew1 HB.out)
      refine start_ (n := 16) (S := fun w' => w'.cell? ⟨g, 1, none⟩ = some (.int .i64 n) ∧ w'.cell? ⟨g, 2, none⟩ = some (.int .i64 v0) ∧ w'.cell? ⟨g, 3, none⟩ = some (.int .i64 v1) ∧ w'.cell? ⟨g, 4, none⟩ = some (.string v2) ∧ w'.cell? ⟨g, 5, none⟩ = some (.string op)) (ds := []) (tf 0 16) (by kernel_rfl) rfl rfl ⟨bc_ BK 1, bc_ BK 2, bc_ BK 3, bc_ BK 4, bc_ BK 5⟩ (fun hHeld => ?_)
      generalize w2.drew = wd at BK BD HB hHeld ⊢
      refine plk_ ?_
      refine tlk_ ?_
      refine onek_ (fun K hK => ?_)
      refine gs_ Tryd.func114 #[.string op] ?_
      refine (impl_isOp.calls k op b _ HC.out).mono ?_
      rintro e w' ⟨rfl, hb⟩
      refine ⟨_, rfl, ?_⟩
      replace BK := bkb_ BK hb; replace BD := bkb_ BD hb; replace HB := bs_ hb; clear hb
      refine hK.out _ _ ⟨bc_ BK 1, bc_ BK 2, bc_ BK 3, bc_ BK 4, bc_ BK 5⟩ (fun hHeld => ?_); clear hK K; refine nm_ ?_
      cases b with
      | false =>
        repeat (first | (refine pdk_ ?_) | (refine plk_ ?_) | (refine tlk_ ?_))
        refine done_ (by kernel_rfl) ?_
        go_wp2
        go_meet
        case rel => exact ⟨_, _, rfl, rfl, ⟨by rw [HE.out]; simp []⟩, BK, BD, HB⟩
      | true =>
        cases hn : (n == 0) with
        | false =>
          repeat (first | (refine pdk_ ?_) | (refine plk_ ?_) | (refine tlk_ ?_))
          refine done_ (by kernel_rfl) ?_
          go_wp2
          go_meet
          case rel => exact ⟨_, _, rfl, rfl, ⟨by rw [HE.out]; simp [hn]⟩, BK, BD, HB⟩
        | true =>
          repeat (first | (refine pdk_ ?_) | (refine plk_ ?_) | (refine tlk_ ?_))
          refine onek_ (fun K hK => ?_)
          refine gs_ Tryd.func113 #[] ?_
          refine (impl_null.calls 0 0 ⟨#[]⟩ _ rfl).mono ?_
          rintro e w' ⟨rfl, hb⟩
          refine ⟨_, rfl, ?_⟩
          replace BK := bkb_ BK hb; replace BD := bkb_ BD hb; replace HB := bs_ hb; clear hb
          refine hK.out _ _ ⟨bc_ BK 1, bc_ BK 2, bc_ BK 3, bc_ BK 4, bc_ BK 5⟩ (fun hHeld => ?_); clear hK K; refine nm_ ?_
          repeat (first | (refine pdk_ ?_) | (refine plk_ ?_) | (refine tlk_ ?_))
          refine done_ (by kernel_rfl) ?_
          go_wp2
          go_meet
          case rel => exact ⟨_, _, rfl, rfl, ⟨by rw [HE.out]; simp [hn, nullB]⟩, BK, BD, HB⟩
    by_cases a3 : a = 3 ∨ a = 4
    · have d1 : (a == 1) = false := beq_eq_false_iff_ne.mpr a1
      have d2 : (a == 2) = false := beq_eq_false_iff_ne.mpr a2
      have HE := Aside0.mk (isExpS_3 (k := k) (n := n) (v0 := v0) (v1 := v1) (v2 := v2) (op := op) a3)
      have HA := Aside0.mk a3
      clear h a0 a1 a2 a3 HS
      have hthree : ((a == 3) = true ∨ ((a == 3) = false ∧ (a == 4) = true)) := by
        rcases HA.out with h | h
        · exact Or.inl (beq_iff_eq.mpr h)
        · exact Or.inr ⟨beq_eq_false_iff_ne.mpr (by omega), beq_iff_eq.mpr h⟩
      rcases hthree with d3 | ⟨d3, d4⟩
      all_goals
        go_wp2
        replace BK := Aside0.mk (blk_drew BK.out)
        replace BD := Aside0.mk (blk_drew BD.out)
        replace HB := Aside0.mk (below_drew1 HB.out)
        refine start_ (n := 16) (S := fun w' => w'.cell? ⟨g, 1, none⟩ = some (.int .i64 n) ∧ w'.cell? ⟨g, 2, none⟩ = some (.int .i64 v0) ∧ w'.cell? ⟨g, 3, none⟩ = some (.int .i64 v1) ∧ w'.cell? ⟨g, 4, none⟩ = some (.string v2) ∧ w'.cell? ⟨g, 5, none⟩ = some (.string op)) (ds := []) (tf 0 16) (by kernel_rfl) rfl rfl ⟨bc_ BK 1, bc_ BK 2, bc_ BK 3, bc_ BK 4, bc_ BK 5⟩ (fun hHeld => ?_)
        generalize w2.drew = wd at BK BD HB hHeld ⊢
        refine plk_ ?_
        refine tlk_ ?_
        cases hn : (n == 0) with
        | false =>
          repeat (first | (refine pdk_ ?_) | (refine plk_ ?_) | (refine tlk_ ?_))
          refine done_ (by kernel_rfl) ?_
          go_wp2
          go_meet
          case rel => exact ⟨_, _, rfl, rfl, ⟨by rw [HE.out]; simp [hn]⟩, BK, BD, HB⟩
        | true =>
          cases hz : nullB v0 v1 v2 with
          | false =>
            have hz0 : (v0 == 0 && (v1 == 0 && v2.toList.isEmpty)) = false := by simpa [nullB] using hz
            have HZ := Aside0.mk hz
            clear hz
            repeat (first | (refine pdk_ ?_) | (refine plk_ ?_) | (refine tlk_ ?_))
            refine onek_ (fun K hK => ?_)
            refine gs_ Tryd.func113 #[] ?_
            refine (impl_null.calls 0 0 ⟨#[]⟩ _ rfl).mono ?_
            rintro e w' ⟨rfl, hb⟩
            refine ⟨_, rfl, ?_⟩
            replace BK := bkb_ BK hb; replace BD := bkb_ BD hb; replace HB := bs_ hb; clear hb
            refine hK.out _ _ ⟨bc_ BK 1, bc_ BK 2, bc_ BK 3, bc_ BK 4, bc_ BK 5⟩ (fun hHeld => ?_); clear hK K; refine nm_ ?_
            repeat (first | (refine pdk_ ?_) | (refine plk_ ?_) | (refine tlk_ ?_))
            refine done_ (by kernel_rfl) ?_
            go_wp2
            go_meet
            case rel => exact ⟨_, _, rfl, rfl, ⟨by rw [HE.out]; simp [hn, HZ.out]⟩, BK, BD, HB⟩
          | true =>
            have hz0 : (v0 == 0 && (v1 == 0 && v2.toList.isEmpty)) = true := by simpa [nullB] using hz
            have HZ := Aside0.mk hz
            clear hz
            repeat (first | (refine pdk_ ?_) | (refine plk_ ?_) | (refine tlk_ ?_))
            refine onek_ (fun K hK => ?_)
            refine gs_ Tryd.func113 #[] ?_
            refine (impl_null.calls 0 0 ⟨#[]⟩ _ rfl).mono ?_
            rintro e w' ⟨rfl, hb⟩
            refine ⟨_, rfl, ?_⟩
            replace BK := bkb_ BK hb; replace BD := bkb_ BD hb; replace HB := bs_ hb; clear hb
            refine hK.out _ _ ⟨bc_ BK 1, bc_ BK 2, bc_ BK 3, bc_ BK 4, bc_ BK 5⟩ (fun hHeld => ?_); clear hK K; refine nm_ ?_
            repeat (first | (refine pdk_ ?_) | (refine plk_ ?_) | (refine tlk_ ?_))
            refine done_ (by kernel_rfl) ?_
            go_wp2
            go_meet
            case rel => exact ⟨_, _, rfl, rfl, ⟨by rw [HE.out]; simp [hn, HZ.out]⟩, BK, BD, HB⟩
    have d1 : (a == 1) = false := beq_eq_false_iff_ne.mpr a1
    have d2 : (a == 2) = false := beq_eq_false_iff_ne.mpr a2
    have d3 : (a == 3) = false := beq_eq_false_iff_ne.mpr (by omega)
    have d4 : (a == 4) = false := beq_eq_false_iff_ne.mpr (by omega)
    have HE := Aside0.mk (isExpS_5 (k := k) (n := n) (v0 := v0) (v1 := v1) (v2 := v2) (op := op) a0 a1 a2 a3)
    clear h a0 a1 a2 a3 HS
    go_wp2
    go_meet
    case rel => exact ⟨_, _, rfl, rfl, HE, BK, BD, HB⟩
  case rest =>
    clear BK BD HB
    obtain ⟨kn', rt', rfl, rfl, HT, BK, BD, HB⟩ := hcut
    have he := Option.some.inj (HT.out.symm.trans HS.out)
    obtain rfl : kn' = kn := congrArg Prod.fst he
    obtain rfl : rt' = rt := congrArg Prod.snd he
    have H := HH.out
    clear HH HT HS he
    have b0 := bc_ (v := (.int .i64 d)) BD 0
    have b1 := bc_ (v := (.slice A l.length c)) BK 6
    cases rt' with
    | false =>
      obtain rfl := Option.some.inj ((if_neg (by simp)).symm.trans H)
      clear H
      go_wp2
      go_ret
      exact ⟨rfl, bb_⟩
    | true =>
      replace H := (if_pos rfl).symm.trans H
      by_cases h1 : d ≤ 12
      · have d1 : decide (d ≤ 12) = true := decide_eq_true h1
        replace H := (if_pos h1).symm.trans H
        clear h1
        by_cases h2 : (l.length : Int) = kn'
        · have d2 : ((l.length : Int) == kn') = true := beq_iff_eq.mpr h2
          replace H := (if_pos h2).symm.trans H
          clear h2
          have eg : ∀ args w, (callFunc 116 args).run Tryd.prog w = .ok (.enter 116 args) w := enters_of Tryd.func116 (by kernel_rfl) rfl
          have hall := areAll_T32.calls _ 116 #[.pointer (some ⟨gd, 0, none⟩)] eg A c l r wc (Kd.C_below HR.out HB.out) (isExp_cb k d gd wc IH.out l b0 (blk_lt BD.out)) H
          have HALL := Aside0.mk hall
          clear H hall
          go_wp2_with (go_at_call 115; refine HALL.out.mono ?_; rintro e w' ⟨rfl, hb'⟩)
          go_ret
          exact ⟨rfl, HB.out.trans (hb'.mono HB.out.size)⟩
        · have d2 : ((l.length : Int) == kn') = false := beq_eq_false_iff_ne.mpr h2
          obtain rfl := Option.some.inj ((if_neg h2).symm.trans H)
          clear H h2
          go_wp2
          go_ret
          exact ⟨rfl, bb_⟩
      · have d1 : decide (d ≤ 12) = false := decide_eq_false h1
        obtain rfl := Option.some.inj ((if_neg h1).symm.trans H)
        clear H h1
        go_wp2
        go_ret
        exact ⟨rfl, bb_⟩


/-! ### impl_ExpOk: function 48 -/
def impl_ExpOk.f (k : Nat) (a0_0 : Int) (a0_1 : Int) (a0_2 : Int) (a0_3 : Int) (a0_4 : ByteArray) (a0_5 : ByteArray) (l0_6 : List (S32)) : Option (Bool) := (impl_isExp.f k a0_0 a0_1 a0_2 a0_3 a0_4 a0_5 l0_6 0).bind fun t176 => (some t176)
set_option maxHeartbeats 8000000 in
set_option maxRecDepth 100000 in
theorem impl_ExpOk.calls (k : Nat) (a0_0 : Int) (a0_1 : Int) (a0_2 : Int) (a0_3 : Int) (a0_4 : ByteArray) (a0_5 : ByteArray) (A0_6 : Option Addr) (c0_6 : Nat) (l0_6 : List (S32)) (r : Bool) (w : World) (hr0_6 : Kd.C k32 w A0_6 l0_6.length l0_6) (hc0_6 : l0_6.length ≤ c0_6) (h : impl_ExpOk.f k a0_0 a0_1 a0_2 a0_3 a0_4 a0_5 l0_6 = some r) :
  Calls Tryd.prog 48 #[.agg #[.int .i64 a0_0, .int .i64 a0_1, .int .i64 a0_2, .int .i64 a0_3, .string a0_4, .string a0_5, .slice A0_6 l0_6.length c0_6]] w fun e w' => e = .returned (.bool r) ∧ Below w.heap.size w w' := by
 have hu32 := Tryd.underlying32
 have HR0_6 := Aside0.mk hr0_6
 have HC0_6 := Aside0.mk hc0_6
 clear hr0_6 hc0_6
 have HB := Aside0.mk (Below.refl w.heap.size w)
 have H : ((impl_isExp.f k a0_0 a0_1 a0_2 a0_3 a0_4 a0_5 l0_6 0).bind fun t176 => (some t176)) = some r := h
 clear h
 replace H := Option.bind_eq_some_iff.mp H
 obtain ⟨t176, A20, H⟩ := H
 replace H : (some t176) = some r := H
 have A2 := Aside0.mk A20
 clear A20
 obtain rfl := Option.some.inj H
 go_enter Tryd.func48, Tryd.ntmps48
 go_wp2_with (first | ((with_reducible refine gate_dst (N := 1) rfl ?_); refine bx_ 1 #[.int .i64 a0_0, .int .i64 a0_1, .int .i64 a0_2, .int .i64 a0_3, .string a0_4, .string a0_5, .slice A0_6 l0_6.length c0_6] 32 ?_; intro gb175 hg w3 hbox hb; have BK175 := Aside0.mk (hbox); have GW175 := gw_ hg; have GE175 := gw_ hg; replace HB := bs_ hb; clear hb hbox hg; obtain ⟨hcz4_0, hcz4_1, hcz4_2, hcz4_3, hcz4_4, hcz4_5, hcz4_6, hfz4_0, hfz4_1, hfz4_2, hfz4_3, hfz4_4, hfz4_5, hfz4_6⟩ := b7_ BK175) | ((with_reducible refine gate_callee (f := 87) rfl ?_); refine gsL_ (some 4) Tryd.func87 #[.agg #[.int .i64 a0_0, .int .i64 a0_1, .int .i64 a0_2, .int .i64 a0_3, .string a0_4, .string a0_5, .slice A0_6 l0_6.length c0_6], .int .i64 0] ?_; (with_reducible refine (impl_isExp.calls k a0_0 a0_1 a0_2 a0_3 a0_4 a0_5 _ _ l0_6 0 t176 _ ?side1 ?side2 A2.out).mono ?_); (case side1 => exact ck_ (Kd.C_below HR0_6.out HB.out)); (case side2 => exact HC0_6.out); rintro e w5 ⟨rfl, hb⟩; refine ⟨_, rfl, ?_⟩; replace BK175 := bkb_ BK175 hb; replace HB := bs_ hb; (try clear hb); (try clear hb2); (try clear hk); (try clear hi)))
 go_ret
 exact ⟨er_, bb_⟩

/-! ### strconv_Itoa: function 72 -/
-- by hand
/-- What the library's own variables hold. -/
def CellIn (w : World) : Prop := ∃ m, w.cell? ⟨0, 0, none⟩ = some (.int .i64 m)
def TabIn (w : World) : Prop := Lib.TabIs Tryd.prog w "internal/strconv.uint64pow10" .u64 Lib.pow10Tab
def MaxLenIn (w : World) : Prop := CellIn w ∧ TabIn w
theorem MaxLenIn.drewN {w : World} (h : MaxLenIn w) (n : Nat) : MaxLenIn (w.drewN n) := h
theorem CellIn.later {w w' : World} (h : CellIn w) (hb : Aside0 (Below w.heap.size w w')) : CellIn w' := by
  obtain ⟨m, hm⟩ := h
  exact ⟨m, (hb.out.cell (p := ⟨0, 0, none⟩) (Addr_lt hm)).trans hm⟩
theorem TabIn.later {w w' : World} (h : TabIn w) (hb : Aside0 (Below w.heap.size w w')) : TabIn w' := var_later h hb
theorem MaxLenIn.later {w w' : World} (h : MaxLenIn w) (hb : Aside0 (Below w.heap.size w w')) : MaxLenIn w' := ⟨h.1.later hb, h.2.later hb⟩
def strconv_Itoa.f (a0 : Int) : Option ByteArray := if -9223372036854775808 ≤ a0 then (if a0 ≤ 9223372036854775807 then some ⟨(Lib.itoa a0).toArray⟩ else none) else none
theorem strconv_Itoa.calls (a0 : Int) (r : ByteArray) (w : World) (h : strconv_Itoa.f a0 = some r) (hM : MaxLenIn w := by first | assumption | exact MaxLenIn.drewN (by assumption) _ | exact MaxLenIn.later (by assumption) (by assumption) | exact MaxLenIn.drewN (MaxLenIn.later (by assumption) (by assumption)) _ | exact MaxLenIn.later (by assumption) ⟨by repeat (first | exact Aside0.out (by assumption) | apply below_alloc | apply pw_below_drewN | apply below_drew1 | refine below_set ?_ (Aside0.out (by assumption)))⟩) :
    Calls Tryd.prog 72 #[.int .i64 a0] w fun e w' => e = .returned (.string r) ∧ Below w.heap.size w w' := by
  unfold strconv_Itoa.f at h
  by_cases h0 : -9223372036854775808 ≤ a0
  case neg => rw [if_neg h0] at h; cases h
  rw [if_pos h0] at h
  by_cases h1 : a0 ≤ 9223372036854775807
  case neg => rw [if_neg h1] at h; cases h
  rw [if_pos h1] at h
  obtain rfl := Option.some.inj h
  refine (Tryd.strconv_Itoa a0 h0 h1 w hM.2).mono ?_
  rintro e w' ⟨rfl, k, os, rfl⟩
  exact ⟨rfl, below_grow_drewN w k os⟩


/-! ### impl_DecText: function 30 -/
def impl_DecText.f (a0 : Int) : Option (ByteArray) := (strconv_Itoa.f a0).bind fun t177 => (some t177)
set_option maxHeartbeats 8000000 in
set_option maxRecDepth 100000 in
theorem impl_DecText.calls (a0 : Int) (r : ByteArray) (w : World) (h : impl_DecText.f a0 = some r) (hM : MaxLenIn w := by first | assumption | exact MaxLenIn.drewN (by assumption) _ | exact MaxLenIn.later (by assumption) (by assumption) | exact MaxLenIn.drewN (MaxLenIn.later (by assumption) (by assumption)) _ | exact MaxLenIn.later (by assumption) ⟨by repeat (first | exact Aside0.out (by assumption) | apply below_alloc | apply pw_below_drewN | apply below_drew1 | refine below_set ?_ (Aside0.out (by assumption)))⟩) :
  Calls Tryd.prog 30 #[.int .i64 a0] w fun e w' => e = .returned (.string r) ∧ Below w.heap.size w w' := by
 have HB := Aside0.mk (Below.refl w.heap.size w)
 have H : ((strconv_Itoa.f a0).bind fun t177 => (some t177)) = some r := h
 clear h
 replace H := Option.bind_eq_some_iff.mp H
 obtain ⟨t177, A20, H⟩ := H
 replace H : (some t177) = some r := H
 have A2 := Aside0.mk A20
 clear A20
 obtain rfl := Option.some.inj H
 go_enter Tryd.func30, Tryd.ntmps30
 go_wp2_with (first | ((with_reducible refine gate_callee (f := 72) rfl ?_); refine gsL_ (some 4) Tryd.func72 #[.int .i64 a0] ?_; (with_reducible refine (strconv_Itoa.calls a0 t177 _ A2.out).mono ?_); rintro e w3 ⟨rfl, hb⟩; refine ⟨_, rfl, ?_⟩; replace HB := bs_ hb; (try clear hb); (try clear hb2); (try clear hk); (try clear hi)))
 go_ret
 exact ⟨er_, bb_⟩

/-! ### strconv_FormatBool_94: function 94 -/
def strconv_FormatBool_94.f (a0 : Bool) : Option (ByteArray) := if a0 = true then (some (⟨#[116, 114, 117, 101]⟩ : ByteArray)) else (some (⟨#[102, 97, 108, 115, 101]⟩ : ByteArray))
set_option maxHeartbeats 8000000 in
set_option maxRecDepth 100000 in
theorem strconv_FormatBool_94.calls (a0 : Bool) (r : ByteArray) (w : World) (h : strconv_FormatBool_94.f a0 = some r) :
  Calls Tryd.prog 94 #[.bool a0] w fun e w' => e = .returned (.string r) ∧ Drawn0 w w' := by
 have H : (if a0 = true then (some (⟨#[116, 114, 117, 101]⟩ : ByteArray)) else (some (⟨#[102, 97, 108, 115, 101]⟩ : ByteArray))) = some r := h
 clear h
 by_cases c2 : a0 = true
 ·subst c2
  have H1 : (some (⟨#[116, 114, 117, 101]⟩ : ByteArray)) = some r := by rw [if_pos rfl] at H; exact H
  clear H
  have H := H1
  clear H1
  obtain rfl := Option.some.inj H
  go_enter Tryd.func94, Tryd.ntmps94
  go_wp2
  go_ret
  exact ⟨by first | rfl | (simp; done) | (simp [*]; done), by repeat (first | exact Drawn0.refl _ | apply Drawn0.step)⟩
 ·replace c2 := Bool.eq_false_iff.mpr c2
  subst c2
  have H1 : (some (⟨#[102, 97, 108, 115, 101]⟩ : ByteArray)) = some r := by rw [if_neg (show ¬ (false = true) by decide)] at H; exact H
  clear H
  have H := H1
  clear H1
  obtain rfl := Option.some.inj H
  go_enter Tryd.func94, Tryd.ntmps94
  go_wp2
  go_ret
  exact ⟨by first | rfl | (simp; done) | (simp [*]; done), by repeat (first | exact Drawn0.refl _ | apply Drawn0.step)⟩

/-! ### strconv_FormatBool_65: function 65 -/
def strconv_FormatBool_65.f (a0 : Bool) : Option (ByteArray) := (strconv_FormatBool_94.f a0).bind fun t178 => (some t178)
set_option maxHeartbeats 8000000 in
set_option maxRecDepth 100000 in
theorem strconv_FormatBool_65.calls (a0 : Bool) (r : ByteArray) (w : World) (h : strconv_FormatBool_65.f a0 = some r) :
  Calls Tryd.prog 65 #[.bool a0] w fun e w' => e = .returned (.string r) ∧ Drawn0 w w' := by
 have H : ((strconv_FormatBool_94.f a0).bind fun t178 => (some t178)) = some r := h
 clear h
 replace H := Option.bind_eq_some_iff.mp H
 obtain ⟨t178, A20, H⟩ := H
 replace H : (some t178) = some r := H
 have A2 := Aside0.mk A20
 clear A20
 obtain rfl := Option.some.inj H
 go_enter Tryd.func65, Tryd.ntmps65
 go_wp2_with (first | ((with_reducible refine gate_callee (f := 94) rfl ?_); refine gsL_ (some 4) Tryd.func94 #[.bool a0] ?_; (with_reducible refine (strconv_FormatBool_94.calls a0 t178 _ A2.out).mono ?_); rintro e w' ⟨rfl, ⟨nd, rfl⟩⟩; refine ⟨_, rfl, ?_⟩))
 go_ret
 exact ⟨by first | rfl | (simp; done) | (simp [*]; done), by repeat (first | exact Drawn0.refl _ | apply Drawn0.step)⟩

end Go.Proofs.YthgdmdabdlgliaaDoor.PFnExactExpText
