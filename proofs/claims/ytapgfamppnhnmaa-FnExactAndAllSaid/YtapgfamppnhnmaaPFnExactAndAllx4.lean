-- WRITTEN BY xprint.py, a program of this session over the kit's printer: by nobody's hand
-- PRESSED
import Derived.Test.YtapgfamppnhnmaaPress
import Derived.Test.YtapgfamppnhnmaaPFnExactAndAllx0
import Derived.Test.YtapgfamppnhnmaaPFnExactAndAllx1
import Derived.Test.YtapgfamppnhnmaaPFnExactAndAllx2
import Derived.Test.YtapgfamppnhnmaaPFnExactAndAllx3
namespace Go.Proofs.Ytapgfamppnhnmaa.PFnExactAndAll
open Go.RowKit Go.Proofs.YtapgfamppnhnmaaW.PrintWords Go.Proofs.YtapgfamppnhnmaaW.PrintLast Go.Proofs.YtapgfamppnhnmaaW.PrintMore
attribute [local go_sem] max2_int min2_int max_two min_two max_three min_three max_four min_four   -- for this text's walks alone
set_option linter.unusedVariables false
set_option linter.unusedSimpArgs false

attribute [local go_sem high] eqA25
/-! ### spec_l03Right: function 70 -/
mutual
def spec_l03Right.l0 : Nat → Int → Int → Int → Int → Int → Int → ByteArray → ByteArray → List (S28) → Option (Bool)
 | 0, _, _, _, _, _, _, _, _, _ => none
 | k + 1, x1, x5, x132000, x132001, x132002, x132003, x132004, x132005, x132006 => if x5 < (x132006.length : Int) then (if 0 ≤ x5 then ((spec_l03Right.f k ((rd_T28 x132006 x5).f0) ((rd_T28 x132006 x5).f1) ((rd_T28 x132006 x5).f2.f0) ((rd_T28 x132006 x5).f2.f1) ((rd_T28 x132006 x5).f2.f2) ((rd_T28 x132006 x5).f3) ((rd_T28 x132006 x5).f4) (wrap64 (x1 - 1))).bind fun t133 => (if t133 = true then (spec_l03Right.l0 k x1 (wrap64 (x5 + 1)) x132000 x132001 x132002 x132003 x132004 x132005 x132006) else (some false))) else (none)) else (if x132001 = 0 then (spec_l03Right.j1 k (x132002 == 0 && (x132003 == 0 && (x132004.toList == ([] : List UInt8)))) x132000 x132001 x132002 x132003 x132004 x132005 x132006) else (spec_l03Right.j1 k false x132000 x132001 x132002 x132003 x132004 x132005 x132006))
def spec_l03Right.j1 : Nat → Bool → Int → Int → Int → Int → ByteArray → ByteArray → List (S28) → Option (Bool)
 | 0, _, _, _, _, _, _, _, _ => none
 | k + 1, x6, x132000, x132001, x132002, x132003, x132004, x132005, x132006 => if x132000 = 0 then ((spec_l01In.f x132001 0 11).bind fun t134 => (if t134 = true then (if (x132002 == 0 && (x132003 == 0 && (x132004.toList == ([] : List UInt8)))) = true then (if x132005.toList = ([] : List UInt8) then (some ((x132006.length : Int) == 0)) else (some false)) else (some false)) else (some false))) else (if x132000 = 1 then ((spec_ValueOk.f x132002 x132003 x132004).bind fun t135 => (if t135 = true then (if x132001 = 0 then (if x132005.toList = ([] : List UInt8) then (some ((x132006.length : Int) == 0)) else (some false)) else (some false)) else (some false))) else (if x132000 = 2 then (if x6 = true then (if (x132006.length : Int) = 2 then ((spec_l03Has.f k (([(⟨#[43]⟩ : ByteArray), (⟨#[45]⟩ : ByteArray), (⟨#[42]⟩ : ByteArray), (⟨#[47]⟩ : ByteArray), (⟨#[61]⟩ : ByteArray), (⟨#[60]⟩ : ByteArray), (⟨#[126]⟩ : ByteArray), (⟨#[97, 110, 100]⟩ : ByteArray), (⟨#[111, 114]⟩ : ByteArray)] : List ByteArray)) x132005).bind fun t139 => (some t139)) else (some false)) else (some false)) else (if x132000 = 3 then (if x6 = true then (if x132005.toList = ([] : List UInt8) then (some ((x132006.length : Int) == 1)) else (some false)) else (some false)) else (if x132000 = 4 then (if x6 = true then (if x132005.toList = ([] : List UInt8) then (some ((x132006.length : Int) == 1)) else (some false)) else (some false)) else (some false)))))
def spec_l03Right.f : Nat → Int → Int → Int → Int → ByteArray → ByteArray → List (S28) → Int → Option (Bool)
 | 0, _, _, _, _, _, _, _, _ => none
 | k + 1, a0_0, a0_1, a0_2, a0_3, a0_4, a0_5, l0_6, a1 => if a1 < 0 then (some false) else (spec_l03Right.l0 k a1 0 a0_0 a0_1 a0_2 a0_3 a0_4 a0_5 l0_6)
end
set_option maxHeartbeats 8000000 in
set_option maxRecDepth 100000 in
theorem spec_l03Right.calls (k : Nat) : ∀ (a0_0 : Int) (a0_1 : Int) (a0_2 : Int) (a0_3 : Int) (a0_4 : ByteArray) (a0_5 : ByteArray) (A0_6 : Option Addr) (c0_6 : Nat) (l0_6 : List (S28)) (a1 : Int) (r : Bool) (w : World) (hr0_6 : Kd.C k28 w A0_6 l0_6.length l0_6) (hc0_6 : l0_6.length ≤ c0_6) (h : spec_l03Right.f k a0_0 a0_1 a0_2 a0_3 a0_4 a0_5 l0_6 a1 = some r),
  Calls Try.prog 70 #[.agg #[.int .i64 a0_0, .int .i64 a0_1, .int .i64 a0_2, .int .i64 a0_3, .string a0_4, .string a0_5, .slice A0_6 l0_6.length c0_6], .int .i64 a1] w fun e w' => e = .returned (.bool r) ∧ Below w.heap.size w w' := by
 induction k using Nat.strongRecOn with
 | _ k ih =>
 intro a0_0 a0_1 a0_2 a0_3 a0_4 a0_5 A0_6 c0_6 l0_6 a1 r w hr0_6 hc0_6 h
 cases k with
 | zero => exact absurd h (by simp [spec_l03Right.f])
 | succ k =>
 simp only [spec_l03Right.f] at h
 have hu28 := Try.underlying28
 have hu25 := Try.underlying25
 have HR0_6 := Aside0.mk hr0_6
 have HC0_6 := Aside0.mk hc0_6
 clear hr0_6 hc0_6
 have HB := Aside0.mk (Below.refl w.heap.size w)
 have H : (if a1 < 0 then (some false) else (spec_l03Right.l0 k a1 0 a0_0 a0_1 a0_2 a0_3 a0_4 a0_5 l0_6)) = some r := h
 clear h
 by_cases c3 : a1 < 0
 ·rw [if_pos c3] at H
  have c3b0 : decide (a1 < 0) = true := decide_eq_true c3
  clear c3
  obtain rfl := Option.some.inj H
  go_enter Try.func70, Try.ntmps70
  go_wp2_with (first | ((with_reducible refine gate_dst (N := 2) rfl ?_); (try (refine gate_guard (by rfl) ?_; dsimp only)); refine bx_ 2 #[.int .i64 a0_0, .int .i64 a0_1, .int .i64 a0_2, .int .i64 a0_3, .string a0_4, .string a0_5, .slice A0_6 l0_6.length c0_6] 28 ?_; intro gb131 hg w4 hbox hb; have BK131 := Aside0.mk (hbox); have GW131 := gw_ hg; have GE131 := gw_ hg; replace HB := bs_ hb; clear hb hbox hg))
  go_ret
  exact ⟨er_, bb_⟩
 ·rw [if_neg c3] at H
  have c3b0 : decide (a1 < 0) = false := decide_eq_false c3
  clear c3
  have H' := Aside0.mk H
  clear H
  go_enter Try.func70, Try.ntmps70
  go_wp2_with (first | ((with_reducible refine gate_dst (N := 2) rfl ?_); (try (refine gate_guard (by rfl) ?_; dsimp only)); refine bx_ 2 #[.int .i64 a0_0, .int .i64 a0_1, .int .i64 a0_2, .int .i64 a0_3, .string a0_4, .string a0_5, .slice A0_6 l0_6.length c0_6] 28 ?_; intro gb131 hg w5 hbox hb; have BK131 := Aside0.mk (hbox); have GW131 := gw_ hg; have GE131 := gw_ hg; replace HB := bs_ hb; clear hb hbox hg))
  go_loopg [5] k (fun kq v5 w' => ∃ (x5_1 : Int), v5 = .int .i64 x5_1 ∧ Aside0 (spec_l03Right.l0 kq a1 x5_1 a0_0 a0_1 a0_2 a0_3 a0_4 a0_5 l0_6 = some r) ∧ Aside0 (kq ≤ k) ∧ Aside0 (w'.heap[gb131]? = some (.cells #[.int .i64 a0_0, .int .i64 a0_1, .int .i64 a0_2, .int .i64 a0_3, .string a0_4, .string a0_5, (.slice A0_6 l0_6.length c0_6)] 28 (0, 0))) ∧ Aside0 (Below w.heap.size w w'))
  case atStart => exact ⟨(0), rs_, H', ⟨Nat.le_refl _⟩, ⟨bkx_ BK131.out⟩, ⟨bb_⟩⟩
  case round =>
   clear H'
   try clear p2
   try clear c3
   try clear c3b0
   try clear BK131
   obtain ⟨x5_1, rfl, HA, HK1, BK131, HB⟩ := hrel
   cases gk with
   | zero => exact absurd HA.out (by simp [spec_l03Right.l0])
   | succ k1 =>
    have H := HA.out
    clear HA
    simp only [spec_l03Right.l0] at H
    by_cases c6 : x5_1 < (l0_6.length : Int)
    ·rw [if_pos c6] at H
     have c6b0 : decide (x5_1 < (l0_6.length : Int)) = true := decide_eq_true c6
     clear c6
     by_cases c7 : 0 ≤ x5_1
     ·rw [if_pos c7] at H
      have c7b0 : decide (0 ≤ x5_1) = true := decide_eq_true c7
      clear c7
      replace H := Option.bind_eq_some_iff.mp H
      obtain ⟨t133, A80, H⟩ := H
      replace H : (if t133 = true then (spec_l03Right.l0 k1 a1 (wrap64 (x5_1 + 1)) a0_0 a0_1 a0_2 a0_3 a0_4 a0_5 l0_6) else (some false)) = some r := H
      have A8 := Aside0.mk A80
      clear A80
      by_cases c9 : t133 = true
      ·subst c9
       have H1 : (spec_l03Right.l0 k1 a1 (wrap64 (x5_1 + 1)) a0_0 a0_1 a0_2 a0_3 a0_4 a0_5 l0_6) = some r := by rw [if_pos rfl] at H; exact H
       clear H
       have H := H1
       clear H1
       have H' := Aside0.mk H
       clear H
       obtain ⟨hcz10_0, hcz10_1, hcz10_2, hcz10_3, hcz10_4, hcz10_5, hcz10_6, hfz10_0, hfz10_1, hfz10_2, hfz10_3, hfz10_4, hfz10_5, hfz10_6⟩ := b7_ BK131
       have p132 : 0 ≤ (x5_1 : Int) := of_decide_eq_true (by first | (with_reducible assumption) | assumption)
       have q132 : x5_1 < (l0_6.length : Int) := of_decide_eq_true (by first | (with_reducible assumption) | assumption)
       obtain ⟨ad132, A132_6, c132_6, e132, hx132_0, hx132_1, hx132_2, hx132_3, hx132_4, hx132_5, hx132_6, hl132_6, hi132_6⟩ := at_T28 HR0_6.out x5_1 p132 q132
       cases e132
       replace hx132_0 := hb_ HB hx132_0
       replace hx132_1 := hb_ HB hx132_1
       replace hx132_2 := hb_ HB hx132_2
       replace hx132_3 := hb_ HB hx132_3
       replace hx132_4 := hb_ HB hx132_4
       replace hx132_5 := hb_ HB hx132_5
       replace hx132_6 := hb_ HB hx132_6
       have HR132_6 := Aside0.mk hi132_6
       have HC132_6 := Aside0.mk hl132_6
       clear hi132_6 hl132_6
       replace p132 := eq_true p132
       replace q132 := eq_true q132
       go_wp2_with (first | ((with_reducible refine gate_callee (f := 70) rfl ?_); refine gsL_ (some 23) Try.func70 #[.agg #[.int .i64 ((rd_T28 l0_6 x5_1).f0), .int .i64 ((rd_T28 l0_6 x5_1).f1), .int .i64 ((rd_T28 l0_6 x5_1).f2.f0), .int .i64 ((rd_T28 l0_6 x5_1).f2.f1), .string ((rd_T28 l0_6 x5_1).f2.f2), .string ((rd_T28 l0_6 x5_1).f3), .slice A132_6 ((rd_T28 l0_6 x5_1).f4).length c132_6], .int .i64 (wrap64 (a1 - 1))] ?_; (with_reducible refine (ih k1 (by have := HK1.out; omega) ((rd_T28 l0_6 x5_1).f0) ((rd_T28 l0_6 x5_1).f1) ((rd_T28 l0_6 x5_1).f2.f0) ((rd_T28 l0_6 x5_1).f2.f1) ((rd_T28 l0_6 x5_1).f2.f2) ((rd_T28 l0_6 x5_1).f3) _ _ ((rd_T28 l0_6 x5_1).f4) (wrap64 (a1 - 1)) true _ ?side1 ?side2 A8.out).mono ?_); (case side1 => exact ck_ (Kd.C_below HR132_6.out HB.out)); (case side2 => exact HC132_6.out); rintro e w11 ⟨rfl, hb⟩; refine ⟨_, rfl, ?_⟩; replace BK131 := bkb_ BK131 hb; replace HB := bs_ hb; (try clear hb); (try clear hb2); (try clear hk); (try clear hi)))
       go_roundg k1
       case measure => have := HK1.out; omega
       case rel => exact ⟨(wrap64 (x5_1 + 1)), rs_, H', ⟨by have := HK1.out; omega⟩, ⟨bkx_ BK131.out⟩, ⟨bb_⟩⟩
      ·replace c9 := Bool.eq_false_iff.mpr c9
       subst c9
       have H1 : (some false) = some r := by rw [if_neg (show ¬ (false = true) by decide)] at H; exact H
       clear H
       have H := H1
       clear H1
       obtain rfl := Option.some.inj H
       obtain ⟨hcz12_0, hcz12_1, hcz12_2, hcz12_3, hcz12_4, hcz12_5, hcz12_6, hfz12_0, hfz12_1, hfz12_2, hfz12_3, hfz12_4, hfz12_5, hfz12_6⟩ := b7_ BK131
       have p132 : 0 ≤ (x5_1 : Int) := of_decide_eq_true (by first | (with_reducible assumption) | assumption)
       have q132 : x5_1 < (l0_6.length : Int) := of_decide_eq_true (by first | (with_reducible assumption) | assumption)
       obtain ⟨ad132, A132_6, c132_6, e132, hx132_0, hx132_1, hx132_2, hx132_3, hx132_4, hx132_5, hx132_6, hl132_6, hi132_6⟩ := at_T28 HR0_6.out x5_1 p132 q132
       cases e132
       (try (have ea_ := Option.some.inj (hx132_6.symm.trans hw132_6); injection ea_ with ea_ en_ ec_; subst ea_; subst ec_; clear en_))
       replace hx132_0 := hb_ HB hx132_0
       replace hx132_1 := hb_ HB hx132_1
       replace hx132_2 := hb_ HB hx132_2
       replace hx132_3 := hb_ HB hx132_3
       replace hx132_4 := hb_ HB hx132_4
       replace hx132_5 := hb_ HB hx132_5
       replace hx132_6 := hb_ HB hx132_6
       have HR132_6 := Aside0.mk hi132_6
       have HC132_6 := Aside0.mk hl132_6
       clear hi132_6 hl132_6
       replace p132 := eq_true p132
       replace q132 := eq_true q132
       go_wp2_with (first | ((with_reducible refine gate_callee (f := 70) rfl ?_); refine gsL_ (some 23) Try.func70 #[.agg #[.int .i64 ((rd_T28 l0_6 x5_1).f0), .int .i64 ((rd_T28 l0_6 x5_1).f1), .int .i64 ((rd_T28 l0_6 x5_1).f2.f0), .int .i64 ((rd_T28 l0_6 x5_1).f2.f1), .string ((rd_T28 l0_6 x5_1).f2.f2), .string ((rd_T28 l0_6 x5_1).f3), .slice A132_6 ((rd_T28 l0_6 x5_1).f4).length c132_6], .int .i64 (wrap64 (a1 - 1))] ?_; (with_reducible refine (ih k1 (by have := HK1.out; omega) ((rd_T28 l0_6 x5_1).f0) ((rd_T28 l0_6 x5_1).f1) ((rd_T28 l0_6 x5_1).f2.f0) ((rd_T28 l0_6 x5_1).f2.f1) ((rd_T28 l0_6 x5_1).f2.f2) ((rd_T28 l0_6 x5_1).f3) _ _ ((rd_T28 l0_6 x5_1).f4) (wrap64 (a1 - 1)) false _ ?side1 ?side2 A8.out).mono ?_); (case side1 => exact ck_ (Kd.C_below HR132_6.out HB.out)); (case side2 => exact HC132_6.out); rintro e w13 ⟨rfl, hb⟩; refine ⟨_, rfl, ?_⟩; replace BK131 := bkb_ BK131 hb; replace HB := bs_ hb; (try clear hb); (try clear hb2); (try clear hk); (try clear hi)))
       go_ret
       exact ⟨er_, bb_⟩
     ·rw [if_neg c7] at H
      exact absurd H (by simp)
    ·rw [if_neg c6] at H
     have c6b0 : decide (x5_1 < (l0_6.length : Int)) = false := decide_eq_false c6
     clear c6
     have HC14 := Aside0.mk H
     clear H
     obtain ⟨hcz15_0, hcz15_1, hcz15_2, hcz15_3, hcz15_4, hcz15_5, hcz15_6, hfz15_0, hfz15_1, hfz15_2, hfz15_3, hfz15_4, hfz15_5, hfz15_6⟩ := b7_ BK131
     go_upto_region 8 with (fail)
     go_cut [6] (fun v6 wc => ∃ (kq : Nat) (x6_13 : Bool), v6 = .bool x6_13 ∧ Aside0 (spec_l03Right.j1 kq x6_13 a0_0 a0_1 a0_2 a0_3 a0_4 a0_5 l0_6 = some r) ∧ Aside0 (kq ≤ k1) ∧ Aside0 (wc.heap[gb131]? = some (.cells #[.int .i64 a0_0, .int .i64 a0_1, .int .i64 a0_2, .int .i64 a0_3, .string a0_4, .string a0_5, (.slice A0_6 l0_6.length c0_6)] 28 (0, 0))) ∧ Aside0 (Below w.heap.size w wc))
     case first =>
      have H := HC14.out
      clear HC14
      by_cases c16 : a0_1 = 0
      ·rw [if_pos c16] at H
       have c16b0 : (a0_1 == 0) = true := beq_iff_eq.mpr c16
       have c16b1 : (a0_1 != 0) = false := bne_eq_false_iff_eq.mpr c16
       clear c16
       (first | rw [c16b0] | (simp only [i64_w, i32_w]; rw [c16b0]) | skip)
       have H' := Aside0.mk H
       clear H
       obtain ⟨hcz17_0, hcz17_1, hcz17_2, hcz17_3, hcz17_4, hcz17_5, hcz17_6, hfz17_0, hfz17_1, hfz17_2, hfz17_3, hfz17_4, hfz17_5, hfz17_6⟩ := b7_ BK131
       go_wp2
       go_meet
       case rel => exact ⟨_, ((a0_2 == 0 && (a0_3 == 0 && (a0_4.toList == ([] : List UInt8))))), rs_, H', ⟨by have := HK1.out; first | omega | exact Nat.le_refl _⟩, ⟨bkx_ BK131.out⟩, ⟨bb_⟩⟩
      ·rw [if_neg c16] at H
       have c16b0 : (a0_1 == 0) = false := beq_eq_false_iff_ne.mpr c16
       have c16b1 : (a0_1 != 0) = true := bne_iff_ne.mpr c16
       (first | rw [c16b0] | (simp only [i64_w, i32_w]; rw [c16b0]) | skip)
       have H' := Aside0.mk H
       clear H
       obtain ⟨hcz18_0, hcz18_1, hcz18_2, hcz18_3, hcz18_4, hcz18_5, hcz18_6, hfz18_0, hfz18_1, hfz18_2, hfz18_3, hfz18_4, hfz18_5, hfz18_6⟩ := b7_ BK131
       go_wp2
       go_meet
       case rel => exact ⟨_, (false), rs_, H', ⟨by have := HK1.out; first | omega | exact Nat.le_refl _⟩, ⟨bkx_ BK131.out⟩, ⟨bb_⟩⟩
     case rest =>
      clear HC14
      try clear c1
      try clear p1
      try clear q1
      try clear hx1
      try clear p2
      try clear c3
      try clear c3b0
      try clear c6
      try clear c6b0
      try clear p6
      try clear c7
      try clear c7b0
      try clear c9
      try clear c13
      try clear p13
      try clear q13
      try clear hx13
      try clear c16
      try clear c16b0
      try clear c16b1
      try clear hcz10_0
      try clear hcz10_1
      try clear hcz10_2
      try clear hcz10_3
      try clear hcz10_4
      try clear hcz10_5
      try clear hcz10_6
      try clear hcz12_0
      try clear hcz12_1
      try clear hcz12_2
      try clear hcz12_3
      try clear hcz12_4
      try clear hcz12_5
      try clear hcz12_6
      try clear hcz15_0
      try clear hcz15_1
      try clear hcz15_2
      try clear hcz15_3
      try clear hcz15_4
      try clear hcz15_5
      try clear hcz15_6
      try clear hcz17_0
      try clear hcz17_1
      try clear hcz17_2
      try clear hcz17_3
      try clear hcz17_4
      try clear hcz17_5
      try clear hcz17_6
      try clear hcz18_0
      try clear hcz18_1
      try clear hcz18_2
      try clear hcz18_3
      try clear hcz18_4
      try clear hcz18_5
      try clear hcz18_6
      try clear hfz10_0
      try clear hfz10_1
      try clear hfz10_2
      try clear hfz10_3
      try clear hfz10_4
      try clear hfz10_5
      try clear hfz10_6
      try clear hfz12_0
      try clear hfz12_1
      try clear hfz12_2
      try clear hfz12_3
      try clear hfz12_4
      try clear hfz12_5
      try clear hfz12_6
      try clear hfz15_0
      try clear hfz15_1
      try clear hfz15_2
      try clear hfz15_3
      try clear hfz15_4
      try clear hfz15_5
      try clear hfz15_6
      try clear hfz17_0
      try clear hfz17_1
      try clear hfz17_2
      try clear hfz17_3
      try clear hfz17_4
      try clear hfz17_5
      try clear hfz17_6
      try clear hfz18_0
      try clear hfz18_1
      try clear hfz18_2
      try clear hfz18_3
      try clear hfz18_4
      try clear hfz18_5
      try clear hfz18_6
      try clear hx132_0
      try clear hx132_1
      try clear hx132_2
      try clear hx132_3
      try clear hx132_4
      try clear hx132_5
      try clear hx132_6
      try clear p132
      try clear p2
      try clear q132
      obtain ⟨kq, x6_13, rfl, HA, HJ13, BK131, HB⟩ := hcut
      cases kq with
      | zero => exact absurd HA.out (by simp [spec_l03Right.j1])
      | succ kj13 =>
       have H := HA.out
       clear HA
       simp only [spec_l03Right.j1] at H
       by_cases c19 : a0_0 = 0
       ·rw [if_pos c19] at H
        have c19b0 : (a0_0 == 0) = true := beq_iff_eq.mpr c19
        have c19b1 : (a0_0 != 0) = false := bne_eq_false_iff_eq.mpr c19
        clear c19
        replace H := Option.bind_eq_some_iff.mp H
        obtain ⟨t134, A200, H⟩ := H
        replace H : (if t134 = true then (if (a0_2 == 0 && (a0_3 == 0 && (a0_4.toList == ([] : List UInt8)))) = true then (if a0_5.toList = ([] : List UInt8) then (some ((l0_6.length : Int) == 0)) else (some false)) else (some false)) else (some false)) = some r := H
        have A20 := Aside0.mk A200
        clear A200
        by_cases c21 : t134 = true
        ·subst c21
         have H1 : (if (a0_2 == 0 && (a0_3 == 0 && (a0_4.toList == ([] : List UInt8)))) = true then (if a0_5.toList = ([] : List UInt8) then (some ((l0_6.length : Int) == 0)) else (some false)) else (some false)) = some r := by rw [if_pos rfl] at H; exact H
         clear H
         have H := H1
         clear H1
         by_cases c22 : (a0_2 == 0 && (a0_3 == 0 && (a0_4.toList == ([] : List UInt8)))) = true
         ·rw [if_pos c22] at H
          have c22b0 : (a0_2 == 0 && (a0_3 == 0 && (a0_4.toList == ([] : List UInt8)))) = true := c22
          (try (have c22bz : (a0_2 == 0 && (a0_3 == 0 && (a0_4.toList.isEmpty))) = true := by simpa using c22b0))
          (try (have c22b1 : decide (a0_2 = 0 && (a0_3 == 0 && (a0_4.toList == ([] : List UInt8)))) = true := by simpa using c22))
          (try (have c22b2 : (a0_2 == 0 && (a0_3 == 0 && (a0_4.toList == ([] : List UInt8)))) = true := by simpa using c22))
          clear c22
          by_cases c23 : a0_5.toList = ([] : List UInt8)
          ·rw [if_pos c23] at H
           have c23b0 : (a0_5.toList == ([] : List UInt8)) = true := beq_iff_eq.mpr c23
           have c23b1 : (a0_5.toList != ([] : List UInt8)) = false := bne_eq_false_iff_eq.mpr c23
           clear c23
           obtain rfl := Option.some.inj H
           obtain ⟨hcz24_0, hcz24_1, hcz24_2, hcz24_3, hcz24_4, hcz24_5, hcz24_6, hfz24_0, hfz24_1, hfz24_2, hfz24_3, hfz24_4, hfz24_5, hfz24_6⟩ := b7_ BK131
           go_wp2_with (first | ((with_reducible refine gate_callee (f := 89) rfl ?_); refine gsL_ (some 40) Try.func89 #[.int .i64 a0_1, .int .i64 0, .int .i64 11] ?_; (with_reducible refine (spec_l01In.calls a0_1 0 11 true _ A20.out).mono ?_); rintro e w' ⟨rfl, ⟨nd, rfl⟩⟩; refine ⟨_, rfl, ?_⟩))
           go_ret
           exact ⟨er_, bb_⟩
          ·rw [if_neg c23] at H
           have c23b0 : (a0_5.toList == ([] : List UInt8)) = false := beq_eq_false_iff_ne.mpr c23
           have c23b1 : (a0_5.toList != ([] : List UInt8)) = true := bne_iff_ne.mpr c23
           obtain rfl := Option.some.inj H
           obtain ⟨hcz25_0, hcz25_1, hcz25_2, hcz25_3, hcz25_4, hcz25_5, hcz25_6, hfz25_0, hfz25_1, hfz25_2, hfz25_3, hfz25_4, hfz25_5, hfz25_6⟩ := b7_ BK131
           go_wp2_with (first | ((with_reducible refine gate_callee (f := 89) rfl ?_); refine gsL_ (some 40) Try.func89 #[.int .i64 a0_1, .int .i64 0, .int .i64 11] ?_; (with_reducible refine (spec_l01In.calls a0_1 0 11 true _ A20.out).mono ?_); rintro e w' ⟨rfl, ⟨nd, rfl⟩⟩; refine ⟨_, rfl, ?_⟩))
           go_ret
           exact ⟨er_, bb_⟩
         ·rw [if_neg c22] at H
          have c22b0 : (a0_2 == 0 && (a0_3 == 0 && (a0_4.toList == ([] : List UInt8)))) = false := by simpa using c22
          (try (have c22bz : (a0_2 == 0 && (a0_3 == 0 && (a0_4.toList.isEmpty))) = false := by simpa using c22b0))
          (try (have c22b1 : decide (a0_2 = 0 && (a0_3 == 0 && (a0_4.toList == ([] : List UInt8)))) = false := by simpa using c22))
          (try (have c22b2 : (a0_2 == 0 && (a0_3 == 0 && (a0_4.toList == ([] : List UInt8)))) = false := by simpa using c22))
          (try (have c22b3 : ¬ (a0_2 = 0 && (a0_3 == 0 && (a0_4.toList == ([] : List UInt8)))) := by simpa using c22))
          clear c22
          obtain rfl := Option.some.inj H
          obtain ⟨hcz26_0, hcz26_1, hcz26_2, hcz26_3, hcz26_4, hcz26_5, hcz26_6, hfz26_0, hfz26_1, hfz26_2, hfz26_3, hfz26_4, hfz26_5, hfz26_6⟩ := b7_ BK131
          go_wp2_with (first | ((with_reducible refine gate_callee (f := 89) rfl ?_); refine gsL_ (some 40) Try.func89 #[.int .i64 a0_1, .int .i64 0, .int .i64 11] ?_; (with_reducible refine (spec_l01In.calls a0_1 0 11 true _ A20.out).mono ?_); rintro e w' ⟨rfl, ⟨nd, rfl⟩⟩; refine ⟨_, rfl, ?_⟩))
          go_ret
          exact ⟨er_, bb_⟩
        ·replace c21 := Bool.eq_false_iff.mpr c21
         subst c21
         have H1 : (some false) = some r := by rw [if_neg (show ¬ (false = true) by decide)] at H; exact H
         clear H
         have H := H1
         clear H1
         obtain rfl := Option.some.inj H
         obtain ⟨hcz27_0, hcz27_1, hcz27_2, hcz27_3, hcz27_4, hcz27_5, hcz27_6, hfz27_0, hfz27_1, hfz27_2, hfz27_3, hfz27_4, hfz27_5, hfz27_6⟩ := b7_ BK131
         go_wp2_with (first | ((with_reducible refine gate_callee (f := 89) rfl ?_); refine gsL_ (some 40) Try.func89 #[.int .i64 a0_1, .int .i64 0, .int .i64 11] ?_; (with_reducible refine (spec_l01In.calls a0_1 0 11 false _ A20.out).mono ?_); rintro e w' ⟨rfl, ⟨nd, rfl⟩⟩; refine ⟨_, rfl, ?_⟩))
         go_ret
         exact ⟨er_, bb_⟩
       ·rw [if_neg c19] at H
        have c19b0 : (a0_0 == 0) = false := beq_eq_false_iff_ne.mpr c19
        have c19b1 : (a0_0 != 0) = true := bne_iff_ne.mpr c19
        by_cases c28 : a0_0 = 1
        ·rw [if_pos c28] at H
         have c28b0 : (a0_0 == 1) = true := beq_iff_eq.mpr c28
         have c28b1 : (a0_0 != 1) = false := bne_eq_false_iff_eq.mpr c28
         clear c28
         replace H := Option.bind_eq_some_iff.mp H
         obtain ⟨t135, A290, H⟩ := H
         replace H : (if t135 = true then (if a0_1 = 0 then (if a0_5.toList = ([] : List UInt8) then (some ((l0_6.length : Int) == 0)) else (some false)) else (some false)) else (some false)) = some r := H
         have A29 := Aside0.mk A290
         clear A290
         by_cases c30 : t135 = true
         ·subst c30
          have H1 : (if a0_1 = 0 then (if a0_5.toList = ([] : List UInt8) then (some ((l0_6.length : Int) == 0)) else (some false)) else (some false)) = some r := by rw [if_pos rfl] at H; exact H
          clear H
          have H := H1
          clear H1
          by_cases c31 : a0_1 = 0
          ·rw [if_pos c31] at H
           have c31b0 : (a0_1 == 0) = true := beq_iff_eq.mpr c31
           have c31b1 : (a0_1 != 0) = false := bne_eq_false_iff_eq.mpr c31
           clear c31
           by_cases c32 : a0_5.toList = ([] : List UInt8)
           ·rw [if_pos c32] at H
            have c32b0 : (a0_5.toList == ([] : List UInt8)) = true := beq_iff_eq.mpr c32
            have c32b1 : (a0_5.toList != ([] : List UInt8)) = false := bne_eq_false_iff_eq.mpr c32
            clear c32
            obtain rfl := Option.some.inj H
            obtain ⟨hcz33_0, hcz33_1, hcz33_2, hcz33_3, hcz33_4, hcz33_5, hcz33_6, hfz33_0, hfz33_1, hfz33_2, hfz33_3, hfz33_4, hfz33_5, hfz33_6⟩ := b7_ BK131
            go_wp2_with (first | ((with_reducible refine gate_callee (f := 101) rfl ?_); refine gsL_ (some 62) Try.func101 #[.agg #[.int .i64 a0_2, .int .i64 a0_3, .string a0_4]] ?_; (with_reducible refine (spec_ValueOk.calls a0_2 a0_3 a0_4 true _ A29.out).mono ?_); rintro e w34 ⟨rfl, hb⟩; refine ⟨_, rfl, ?_⟩; replace BK131 := bkb_ BK131 hb; replace HB := bs_ hb; (try clear hb); (try clear hb2); (try clear hk); (try clear hi); obtain ⟨hcz35_0, hcz35_1, hcz35_2, hcz35_3, hcz35_4, hcz35_5, hcz35_6, hfz35_0, hfz35_1, hfz35_2, hfz35_3, hfz35_4, hfz35_5, hfz35_6⟩ := b7_ BK131))
            go_ret
            exact ⟨er_, bb_⟩
           ·rw [if_neg c32] at H
            have c32b0 : (a0_5.toList == ([] : List UInt8)) = false := beq_eq_false_iff_ne.mpr c32
            have c32b1 : (a0_5.toList != ([] : List UInt8)) = true := bne_iff_ne.mpr c32
            obtain rfl := Option.some.inj H
            obtain ⟨hcz36_0, hcz36_1, hcz36_2, hcz36_3, hcz36_4, hcz36_5, hcz36_6, hfz36_0, hfz36_1, hfz36_2, hfz36_3, hfz36_4, hfz36_5, hfz36_6⟩ := b7_ BK131
            go_wp2_with (first | ((with_reducible refine gate_callee (f := 101) rfl ?_); refine gsL_ (some 62) Try.func101 #[.agg #[.int .i64 a0_2, .int .i64 a0_3, .string a0_4]] ?_; (with_reducible refine (spec_ValueOk.calls a0_2 a0_3 a0_4 true _ A29.out).mono ?_); rintro e w37 ⟨rfl, hb⟩; refine ⟨_, rfl, ?_⟩; replace BK131 := bkb_ BK131 hb; replace HB := bs_ hb; (try clear hb); (try clear hb2); (try clear hk); (try clear hi); obtain ⟨hcz38_0, hcz38_1, hcz38_2, hcz38_3, hcz38_4, hcz38_5, hcz38_6, hfz38_0, hfz38_1, hfz38_2, hfz38_3, hfz38_4, hfz38_5, hfz38_6⟩ := b7_ BK131))
            go_ret
            exact ⟨er_, bb_⟩
          ·rw [if_neg c31] at H
           have c31b0 : (a0_1 == 0) = false := beq_eq_false_iff_ne.mpr c31
           have c31b1 : (a0_1 != 0) = true := bne_iff_ne.mpr c31
           obtain rfl := Option.some.inj H
           obtain ⟨hcz39_0, hcz39_1, hcz39_2, hcz39_3, hcz39_4, hcz39_5, hcz39_6, hfz39_0, hfz39_1, hfz39_2, hfz39_3, hfz39_4, hfz39_5, hfz39_6⟩ := b7_ BK131
           go_wp2_with (first | ((with_reducible refine gate_callee (f := 101) rfl ?_); refine gsL_ (some 62) Try.func101 #[.agg #[.int .i64 a0_2, .int .i64 a0_3, .string a0_4]] ?_; (with_reducible refine (spec_ValueOk.calls a0_2 a0_3 a0_4 true _ A29.out).mono ?_); rintro e w40 ⟨rfl, hb⟩; refine ⟨_, rfl, ?_⟩; replace BK131 := bkb_ BK131 hb; replace HB := bs_ hb; (try clear hb); (try clear hb2); (try clear hk); (try clear hi); obtain ⟨hcz41_0, hcz41_1, hcz41_2, hcz41_3, hcz41_4, hcz41_5, hcz41_6, hfz41_0, hfz41_1, hfz41_2, hfz41_3, hfz41_4, hfz41_5, hfz41_6⟩ := b7_ BK131))
           go_ret
           exact ⟨er_, bb_⟩
         ·replace c30 := Bool.eq_false_iff.mpr c30
          subst c30
          have H1 : (some false) = some r := by rw [if_neg (show ¬ (false = true) by decide)] at H; exact H
          clear H
          have H := H1
          clear H1
          obtain rfl := Option.some.inj H
          obtain ⟨hcz42_0, hcz42_1, hcz42_2, hcz42_3, hcz42_4, hcz42_5, hcz42_6, hfz42_0, hfz42_1, hfz42_2, hfz42_3, hfz42_4, hfz42_5, hfz42_6⟩ := b7_ BK131
          go_wp2_with (first | ((with_reducible refine gate_callee (f := 101) rfl ?_); refine gsL_ (some 62) Try.func101 #[.agg #[.int .i64 a0_2, .int .i64 a0_3, .string a0_4]] ?_; (with_reducible refine (spec_ValueOk.calls a0_2 a0_3 a0_4 false _ A29.out).mono ?_); rintro e w43 ⟨rfl, hb⟩; refine ⟨_, rfl, ?_⟩; replace BK131 := bkb_ BK131 hb; replace HB := bs_ hb; (try clear hb); (try clear hb2); (try clear hk); (try clear hi)))
          go_ret
          exact ⟨er_, bb_⟩
        ·rw [if_neg c28] at H
         have c28b0 : (a0_0 == 1) = false := beq_eq_false_iff_ne.mpr c28
         have c28b1 : (a0_0 != 1) = true := bne_iff_ne.mpr c28
         by_cases c44 : a0_0 = 2
         ·rw [if_pos c44] at H
          have c44b0 : (a0_0 == 2) = true := beq_iff_eq.mpr c44
          have c44b1 : (a0_0 != 2) = false := bne_eq_false_iff_eq.mpr c44
          clear c44
          by_cases c45 : x6_13 = true
          ·subst c45
           have H1 : (if (l0_6.length : Int) = 2 then ((spec_l03Has.f kj13 (([(⟨#[43]⟩ : ByteArray), (⟨#[45]⟩ : ByteArray), (⟨#[42]⟩ : ByteArray), (⟨#[47]⟩ : ByteArray), (⟨#[61]⟩ : ByteArray), (⟨#[60]⟩ : ByteArray), (⟨#[126]⟩ : ByteArray), (⟨#[97, 110, 100]⟩ : ByteArray), (⟨#[111, 114]⟩ : ByteArray)] : List ByteArray)) a0_5).bind fun t139 => (some t139)) else (some false)) = some r := by rw [if_pos rfl] at H; exact H
           clear H
           have H := H1
           clear H1
           by_cases c46 : (l0_6.length : Int) = 2
           ·rw [if_pos c46] at H
            have c46b0 : ((l0_6.length : Int) == 2) = true := beq_iff_eq.mpr c46
            have c46b1 : ((l0_6.length : Int) != 2) = false := bne_eq_false_iff_eq.mpr c46
            clear c46
            obtain ⟨y136, hy136⟩ : ∃ y_ : List ByteArray, y_ = (([(⟨#[43]⟩ : ByteArray), (⟨#[45]⟩ : ByteArray), (⟨#[42]⟩ : ByteArray), (⟨#[47]⟩ : ByteArray), (⟨#[61]⟩ : ByteArray), (⟨#[60]⟩ : ByteArray), (⟨#[126]⟩ : ByteArray), (⟨#[97, 110, 100]⟩ : ByteArray), (⟨#[111, 114]⟩ : ByteArray)] : List ByteArray)) := ⟨_, rfl⟩
            replace H : ((spec_l03Has.f kj13 y136 a0_5).bind fun t139 => (some t139)) = some r := by first | (rw [hy136]; with_reducible exact H) | (have H2_ := (Option.bind_some _ _).symm.trans H; rw [hy136]; with_reducible exact H2_) | (have H2_ := (Option.bind_some _ _).symm.trans H; with_reducible exact H2_) | with_reducible exact H | (rw [hy136]; exact H) | exact H
            have Ny136 := Aside0.mk hy136
            clear hy136
            replace H := Option.bind_eq_some_iff.mp H
            obtain ⟨t139, A470, H⟩ := H
            replace H : (some t139) = some r := H
            have A47 := Aside0.mk A470
            clear A470
            obtain rfl := Option.some.inj H
            obtain ⟨hcz48_0, hcz48_1, hcz48_2, hcz48_3, hcz48_4, hcz48_5, hcz48_6, hfz48_0, hfz48_1, hfz48_2, hfz48_3, hfz48_4, hfz48_5, hfz48_6⟩ := b7_ BK131
            go_wp2_with (first | ((with_reducible refine gate_dst (N := 89) rfl ?_); (try (refine gate_guard (by rfl) ?_; dsimp only)); refine Kd.R_lit Kd.string _ 9 ?hg (N := 89) ?hd (xs := ([(⟨#[43]⟩ : ByteArray), (⟨#[45]⟩ : ByteArray), (⟨#[42]⟩ : ByteArray), (⟨#[47]⟩ : ByteArray), (⟨#[61]⟩ : ByteArray), (⟨#[60]⟩ : ByteArray), (⟨#[126]⟩ : ByteArray), (⟨#[97, 110, 100]⟩ : ByteArray), (⟨#[111, 114]⟩ : ByteArray)] : List ByteArray)) (inner := [.string (⟨#[43]⟩ : ByteArray), .string (⟨#[45]⟩ : ByteArray), .string (⟨#[42]⟩ : ByteArray), .string (⟨#[47]⟩ : ByteArray), .string (⟨#[61]⟩ : ByteArray), .string (⟨#[60]⟩ : ByteArray), .string (⟨#[126]⟩ : ByteArray), .string (⟨#[97, 110, 100]⟩ : ByteArray), .string (⟨#[111, 114]⟩ : ByteArray)]) (ok := fun _ => True) (okp := fun _ => True) ?hr ?hp (fun _ hk => hk) trivial (Below.refl _ _) (Nat.le_refl _) (by simp) ?_; (case hd => rfl); (case hg => rfl); (case hr => first | (go_simp; done) | (go_simp; rfl)); (case hp => exact (Reps.one (show Kd.M Kd.string _ _ _ (⟨#[43]⟩ : ByteArray) [.string (⟨#[43]⟩ : ByteArray)] from rfl) (Reps.one (show Kd.M Kd.string _ _ _ (⟨#[45]⟩ : ByteArray) [.string (⟨#[45]⟩ : ByteArray)] from rfl) (Reps.one (show Kd.M Kd.string _ _ _ (⟨#[42]⟩ : ByteArray) [.string (⟨#[42]⟩ : ByteArray)] from rfl) (Reps.one (show Kd.M Kd.string _ _ _ (⟨#[47]⟩ : ByteArray) [.string (⟨#[47]⟩ : ByteArray)] from rfl) (Reps.one (show Kd.M Kd.string _ _ _ (⟨#[61]⟩ : ByteArray) [.string (⟨#[61]⟩ : ByteArray)] from rfl) (Reps.one (show Kd.M Kd.string _ _ _ (⟨#[60]⟩ : ByteArray) [.string (⟨#[60]⟩ : ByteArray)] from rfl) (Reps.one (show Kd.M Kd.string _ _ _ (⟨#[126]⟩ : ByteArray) [.string (⟨#[126]⟩ : ByteArray)] from rfl) (Reps.one (show Kd.M Kd.string _ _ _ (⟨#[97, 110, 100]⟩ : ByteArray) [.string (⟨#[97, 110, 100]⟩ : ByteArray)] from rfl) (Reps.one (show Kd.M Kd.string _ _ _ (⟨#[111, 114]⟩ : ByteArray) [.string (⟨#[111, 114]⟩ : ByteArray)] from rfl) (Reps.none _ _))))))))))); intro v137 w49 ho50 hb hg_ hnew_; clear hg_ hnew_; (first | rw [← Ny136.out] at ho50 | (simp only [Int.reduceToNat] at ho50; rw [← Ny136.out] at ho50)); have HO138 := Aside0.mk (Kd.R_lower ho50 (below_size bb_)); replace BK131 := bkb_ BK131 hb; replace HB := bs_ hb; clear hb ho50; obtain ⟨hcz51_0, hcz51_1, hcz51_2, hcz51_3, hcz51_4, hcz51_5, hcz51_6, hfz51_0, hfz51_1, hfz51_2, hfz51_3, hfz51_4, hfz51_5, hfz51_6⟩ := b7_ BK131; obtain ⟨Ao52, co52, eo52⟩ := Kd.R_slice HO138.out; subst eo52) | (go_at_call 102; (with_reducible refine (spec_l03Has.calls kj13 _ _ y136 a0_5 t139 _ ?side1 ?side2 A47.out).mono ?_); (case side1 => exact ck_ (Kd.R_reads' HO138.out).2.2); (case side2 => exact (Kd.R_reads' HO138.out).2.1); rintro e w' ⟨rfl, ⟨nd, rfl⟩⟩))
            go_ret
            exact ⟨er_, bb_⟩
           ·rw [if_neg c46] at H
            have c46b0 : ((l0_6.length : Int) == 2) = false := beq_eq_false_iff_ne.mpr c46
            have c46b1 : ((l0_6.length : Int) != 2) = true := bne_iff_ne.mpr c46
            obtain rfl := Option.some.inj H
            obtain ⟨hcz53_0, hcz53_1, hcz53_2, hcz53_3, hcz53_4, hcz53_5, hcz53_6, hfz53_0, hfz53_1, hfz53_2, hfz53_3, hfz53_4, hfz53_5, hfz53_6⟩ := b7_ BK131
            go_wp2
            go_ret
            exact ⟨er_, bb_⟩
          ·replace c45 := Bool.eq_false_iff.mpr c45
           subst c45
           have H1 : (some false) = some r := by rw [if_neg (show ¬ (false = true) by decide)] at H; exact H
           clear H
           have H := H1
           clear H1
           obtain rfl := Option.some.inj H
           obtain ⟨hcz54_0, hcz54_1, hcz54_2, hcz54_3, hcz54_4, hcz54_5, hcz54_6, hfz54_0, hfz54_1, hfz54_2, hfz54_3, hfz54_4, hfz54_5, hfz54_6⟩ := b7_ BK131
           go_wp2
           go_ret
           exact ⟨er_, bb_⟩
         ·rw [if_neg c44] at H
          have c44b0 : (a0_0 == 2) = false := beq_eq_false_iff_ne.mpr c44
          have c44b1 : (a0_0 != 2) = true := bne_iff_ne.mpr c44
          by_cases c55 : a0_0 = 3
          ·rw [if_pos c55] at H
           have c55b0 : (a0_0 == 3) = true := beq_iff_eq.mpr c55
           have c55b1 : (a0_0 != 3) = false := bne_eq_false_iff_eq.mpr c55
           clear c55
           by_cases c56 : x6_13 = true
           ·subst c56
            have H1 : (if a0_5.toList = ([] : List UInt8) then (some ((l0_6.length : Int) == 1)) else (some false)) = some r := by rw [if_pos rfl] at H; exact H
            clear H
            have H := H1
            clear H1
            by_cases c57 : a0_5.toList = ([] : List UInt8)
            ·rw [if_pos c57] at H
             have c57b0 : (a0_5.toList == ([] : List UInt8)) = true := beq_iff_eq.mpr c57
             have c57b1 : (a0_5.toList != ([] : List UInt8)) = false := bne_eq_false_iff_eq.mpr c57
             clear c57
             obtain rfl := Option.some.inj H
             obtain ⟨hcz58_0, hcz58_1, hcz58_2, hcz58_3, hcz58_4, hcz58_5, hcz58_6, hfz58_0, hfz58_1, hfz58_2, hfz58_3, hfz58_4, hfz58_5, hfz58_6⟩ := b7_ BK131
             go_wp2
             go_ret
             exact ⟨er_, bb_⟩
            ·rw [if_neg c57] at H
             have c57b0 : (a0_5.toList == ([] : List UInt8)) = false := beq_eq_false_iff_ne.mpr c57
             have c57b1 : (a0_5.toList != ([] : List UInt8)) = true := bne_iff_ne.mpr c57
             obtain rfl := Option.some.inj H
             obtain ⟨hcz59_0, hcz59_1, hcz59_2, hcz59_3, hcz59_4, hcz59_5, hcz59_6, hfz59_0, hfz59_1, hfz59_2, hfz59_3, hfz59_4, hfz59_5, hfz59_6⟩ := b7_ BK131
             go_wp2
             go_ret
             exact ⟨er_, bb_⟩
           ·replace c56 := Bool.eq_false_iff.mpr c56
            subst c56
            have H1 : (some false) = some r := by rw [if_neg (show ¬ (false = true) by decide)] at H; exact H
            clear H
            have H := H1
            clear H1
            obtain rfl := Option.some.inj H
            obtain ⟨hcz60_0, hcz60_1, hcz60_2, hcz60_3, hcz60_4, hcz60_5, hcz60_6, hfz60_0, hfz60_1, hfz60_2, hfz60_3, hfz60_4, hfz60_5, hfz60_6⟩ := b7_ BK131
            go_wp2
            go_ret
            exact ⟨er_, bb_⟩
          ·rw [if_neg c55] at H
           have c55b0 : (a0_0 == 3) = false := beq_eq_false_iff_ne.mpr c55
           have c55b1 : (a0_0 != 3) = true := bne_iff_ne.mpr c55
           by_cases c61 : a0_0 = 4
           ·rw [if_pos c61] at H
            have c61b0 : (a0_0 == 4) = true := beq_iff_eq.mpr c61
            have c61b1 : (a0_0 != 4) = false := bne_eq_false_iff_eq.mpr c61
            clear c61
            by_cases c62 : x6_13 = true
            ·subst c62
             have H1 : (if a0_5.toList = ([] : List UInt8) then (some ((l0_6.length : Int) == 1)) else (some false)) = some r := by rw [if_pos rfl] at H; exact H
             clear H
             have H := H1
             clear H1
             by_cases c63 : a0_5.toList = ([] : List UInt8)
             ·rw [if_pos c63] at H
              have c63b0 : (a0_5.toList == ([] : List UInt8)) = true := beq_iff_eq.mpr c63
              have c63b1 : (a0_5.toList != ([] : List UInt8)) = false := bne_eq_false_iff_eq.mpr c63
              clear c63
              obtain rfl := Option.some.inj H
              obtain ⟨hcz64_0, hcz64_1, hcz64_2, hcz64_3, hcz64_4, hcz64_5, hcz64_6, hfz64_0, hfz64_1, hfz64_2, hfz64_3, hfz64_4, hfz64_5, hfz64_6⟩ := b7_ BK131
              go_wp2
              go_ret
              exact ⟨er_, bb_⟩
             ·rw [if_neg c63] at H
              have c63b0 : (a0_5.toList == ([] : List UInt8)) = false := beq_eq_false_iff_ne.mpr c63
              have c63b1 : (a0_5.toList != ([] : List UInt8)) = true := bne_iff_ne.mpr c63
              obtain rfl := Option.some.inj H
              obtain ⟨hcz65_0, hcz65_1, hcz65_2, hcz65_3, hcz65_4, hcz65_5, hcz65_6, hfz65_0, hfz65_1, hfz65_2, hfz65_3, hfz65_4, hfz65_5, hfz65_6⟩ := b7_ BK131
              go_wp2
              go_ret
              exact ⟨er_, bb_⟩
            ·replace c62 := Bool.eq_false_iff.mpr c62
             subst c62
             have H1 : (some false) = some r := by rw [if_neg (show ¬ (false = true) by decide)] at H; exact H
             clear H
             have H := H1
             clear H1
             obtain rfl := Option.some.inj H
             obtain ⟨hcz66_0, hcz66_1, hcz66_2, hcz66_3, hcz66_4, hcz66_5, hcz66_6, hfz66_0, hfz66_1, hfz66_2, hfz66_3, hfz66_4, hfz66_5, hfz66_6⟩ := b7_ BK131
             go_wp2
             go_ret
             exact ⟨er_, bb_⟩
           ·rw [if_neg c61] at H
            have c61b0 : (a0_0 == 4) = false := beq_eq_false_iff_ne.mpr c61
            have c61b1 : (a0_0 != 4) = true := bne_iff_ne.mpr c61
            obtain rfl := Option.some.inj H
            obtain ⟨hcz67_0, hcz67_1, hcz67_2, hcz67_3, hcz67_4, hcz67_5, hcz67_6, hfz67_0, hfz67_1, hfz67_2, hfz67_3, hfz67_4, hfz67_5, hfz67_6⟩ := b7_ BK131
            go_wp2
            go_ret
            exact ⟨er_, bb_⟩

end Go.Proofs.Ytapgfamppnhnmaa.PFnExactAndAll
