-- WRITTEN BY xprint.py, a program of this session over the kit's printer: by nobody's hand
-- PRESSED
import Derived.Test.YtmkllhkhiefbnaaPress
import Derived.Test.YtmkllhkhiefbnaaPFnExactExpOkx0
import Derived.Test.YtmkllhkhiefbnaaPFnExactExpOkx1
import Derived.Test.YtmkllhkhiefbnaaPFnExactExpOkx2
namespace Go.Proofs.Ytmkllhkhiefbnaa.PFnExactExpOk
open Go.RowKit Go.Proofs.YtmkllhkhiefbnaaW.PrintWords Go.Proofs.YtmkllhkhiefbnaaW.PrintLast Go.Proofs.YtmkllhkhiefbnaaW.PrintMore
set_option linter.unusedVariables false
set_option linter.unusedSimpArgs false

attribute [local go_sem high] eqA29
/-! ### spec_l03Right: function 59 -/
mutual
def spec_l03Right.l0 : Nat → Int → Int → Int → Int → Int → Int → ByteArray → ByteArray → List (S32) → Option (Bool)
 | 0, _, _, _, _, _, _, _, _, _ => none
 | k + 1, x1, x5, x111000, x111001, x111002, x111003, x111004, x111005, x111006 => if x5 < (x111006.length : Int) then (if 0 ≤ x5 then ((spec_l03Right.f k ((rd_T32 x111006 x5).f0) ((rd_T32 x111006 x5).f1) ((rd_T32 x111006 x5).f2.f0) ((rd_T32 x111006 x5).f2.f1) ((rd_T32 x111006 x5).f2.f2) ((rd_T32 x111006 x5).f3) ((rd_T32 x111006 x5).f4) (wrap64 (x1 - 1))).bind fun t112 => (if t112 = true then (spec_l03Right.l0 k x1 (wrap64 (x5 + 1)) x111000 x111001 x111002 x111003 x111004 x111005 x111006) else (some false))) else (none)) else (if x111001 = 0 then (spec_l03Right.j1 k (x111002 == 0 && (x111003 == 0 && (x111004.toList == ([] : List UInt8)))) x111000 x111001 x111002 x111003 x111004 x111005 x111006) else (spec_l03Right.j1 k false x111000 x111001 x111002 x111003 x111004 x111005 x111006))
def spec_l03Right.j1 : Nat → Bool → Int → Int → Int → Int → ByteArray → ByteArray → List (S32) → Option (Bool)
 | 0, _, _, _, _, _, _, _, _ => none
 | k + 1, x6, x111000, x111001, x111002, x111003, x111004, x111005, x111006 => if x111000 = 0 then ((spec_l01In.f x111001 0 11).bind fun t113 => (if t113 = true then (if (x111002 == 0 && (x111003 == 0 && (x111004.toList == ([] : List UInt8)))) = true then (if x111005.toList = ([] : List UInt8) then (some ((x111006.length : Int) == 0)) else (some false)) else (some false)) else (some false))) else (if x111000 = 1 then ((spec_ValueOk.f x111002 x111003 x111004).bind fun t114 => (if t114 = true then (if x111001 = 0 then (if x111005.toList = ([] : List UInt8) then (some ((x111006.length : Int) == 0)) else (some false)) else (some false)) else (some false))) else (if x111000 = 2 then (if x6 = true then (if (x111006.length : Int) = 2 then ((spec_l03Has.f k (([(⟨#[43]⟩ : ByteArray), (⟨#[45]⟩ : ByteArray), (⟨#[42]⟩ : ByteArray), (⟨#[47]⟩ : ByteArray), (⟨#[61]⟩ : ByteArray), (⟨#[60]⟩ : ByteArray), (⟨#[126]⟩ : ByteArray), (⟨#[97, 110, 100]⟩ : ByteArray), (⟨#[111, 114]⟩ : ByteArray)] : List ByteArray)) x111005).bind fun t118 => (some t118)) else (some false)) else (some false)) else (if x111000 = 3 then (if x6 = true then (if x111005.toList = ([] : List UInt8) then (some ((x111006.length : Int) == 1)) else (some false)) else (some false)) else (if x111000 = 4 then (if x6 = true then (if x111005.toList = ([] : List UInt8) then (some ((x111006.length : Int) == 1)) else (some false)) else (some false)) else (some false)))))
def spec_l03Right.f : Nat → Int → Int → Int → Int → ByteArray → ByteArray → List (S32) → Int → Option (Bool)
 | 0, _, _, _, _, _, _, _, _ => none
 | k + 1, a0_0, a0_1, a0_2, a0_3, a0_4, a0_5, l0_6, a1 => if a1 < 0 then (some false) else (spec_l03Right.l0 k a1 0 a0_0 a0_1 a0_2 a0_3 a0_4 a0_5 l0_6)
end
set_option maxHeartbeats 8000000 in
set_option maxRecDepth 100000 in
theorem spec_l03Right.calls (k : Nat) : ∀ (a0_0 : Int) (a0_1 : Int) (a0_2 : Int) (a0_3 : Int) (a0_4 : ByteArray) (a0_5 : ByteArray) (A0_6 : Option Addr) (c0_6 : Nat) (l0_6 : List (S32)) (a1 : Int) (r : Bool) (w : World) (hr0_6 : Kd.C k32 w A0_6 l0_6.length l0_6) (hc0_6 : l0_6.length ≤ c0_6) (h : spec_l03Right.f k a0_0 a0_1 a0_2 a0_3 a0_4 a0_5 l0_6 a1 = some r),
  Calls Try.prog 59 #[.agg #[.int .i64 a0_0, .int .i64 a0_1, .int .i64 a0_2, .int .i64 a0_3, .string a0_4, .string a0_5, .slice A0_6 l0_6.length c0_6], .int .i64 a1] w fun e w' => e = .returned (.bool r) ∧ Below w.heap.size w w' := by
 induction k using Nat.strongRecOn with
 | _ k ih =>
 intro a0_0 a0_1 a0_2 a0_3 a0_4 a0_5 A0_6 c0_6 l0_6 a1 r w hr0_6 hc0_6 h
 cases k with
 | zero => exact absurd h (by simp [spec_l03Right.f])
 | succ k =>
 simp only [spec_l03Right.f] at h
 have hu32 := Try.underlying32
 have hu29 := Try.underlying29
 have HR0_6 := Aside0.mk hr0_6
 have HC0_6 := Aside0.mk hc0_6
 clear hr0_6 hc0_6
 have HB := Aside0.mk (Below.refl w.heap.size w)
 have H : (if a1 < 0 then (some false) else (spec_l03Right.l0 k a1 0 a0_0 a0_1 a0_2 a0_3 a0_4 a0_5 l0_6)) = some r := h
 clear h
 by_cases c3 : a1 < 0
 ·rw [if_pos c3] at H
  have c3b0 : decide (a1 < 0) = true := decide_eq_true c3
  clear c3
  obtain rfl := Option.some.inj H
  go_enter Try.func59, Try.ntmps59
  go_wp2_with (first | ((with_reducible refine gate_dst (N := 2) rfl ?_); (try (refine gate_guard (by rfl) ?_; dsimp only)); refine bx_ 2 #[.int .i64 a0_0, .int .i64 a0_1, .int .i64 a0_2, .int .i64 a0_3, .string a0_4, .string a0_5, .slice A0_6 l0_6.length c0_6] 32 ?_; intro gb110 hg w4 hbox hb; have BK110 := Aside0.mk (hbox); have GW110 := gw_ hg; have GE110 := gw_ hg; replace HB := bs_ hb; clear hb hbox hg))
  go_ret
  exact ⟨er_, bb_⟩
 ·rw [if_neg c3] at H
  have c3b0 : decide (a1 < 0) = false := decide_eq_false c3
  clear c3
  have H' := Aside0.mk H
  clear H
  go_enter Try.func59, Try.ntmps59
  go_wp2_with (first | ((with_reducible refine gate_dst (N := 2) rfl ?_); (try (refine gate_guard (by rfl) ?_; dsimp only)); refine bx_ 2 #[.int .i64 a0_0, .int .i64 a0_1, .int .i64 a0_2, .int .i64 a0_3, .string a0_4, .string a0_5, .slice A0_6 l0_6.length c0_6] 32 ?_; intro gb110 hg w5 hbox hb; have BK110 := Aside0.mk (hbox); have GW110 := gw_ hg; have GE110 := gw_ hg; replace HB := bs_ hb; clear hb hbox hg))
  go_loopg [5] k (fun kq v5 w' => ∃ (x5_1 : Int), v5 = .int .i64 x5_1 ∧ Aside0 (spec_l03Right.l0 kq a1 x5_1 a0_0 a0_1 a0_2 a0_3 a0_4 a0_5 l0_6 = some r) ∧ Aside0 (kq ≤ k) ∧ Aside0 (w'.heap[gb110]? = some (.cells #[.int .i64 a0_0, .int .i64 a0_1, .int .i64 a0_2, .int .i64 a0_3, .string a0_4, .string a0_5, (.slice A0_6 l0_6.length c0_6)] 32 (0, 0))) ∧ Aside0 (Below w.heap.size w w'))
  case atStart => exact ⟨(0), (by first | rfl | (simp; done) | (simp [*]; done)), H', ⟨Nat.le_refl _⟩, ⟨by (with_reducible repeat (first | refine blk_drewN ?_ _ | refine blk_drew ?_ | refine blk_alloc ?_ _)); exact BK110.out⟩, ⟨by repeat (first | (with_reducible first | exact HB.out | apply below_alloc | apply pw_below_drewN | apply below_drew1 | refine below_set ?_ GE110.out) | exact HB.out)⟩⟩
  case round =>
   clear H'
   try clear p2
   try clear c3
   try clear c3b0
   try clear c5
   obtain ⟨x5_1, rfl, HA, HK1, BK110, HB⟩ := hrel
   cases gk with
   | zero => exact absurd HA.out (by simp [spec_l03Right.l0])
   | succ k1 =>
    have H := HA.out
    clear HA
    simp only [spec_l03Right.l0] at H
    by_cases c6 : x5_1 < (l0_6.length : Int)
    ·rw [if_pos c6] at H
     have c6b0 : decide (x5_1 < (l0_6.length : Int)) = true := decide_eq_true c6
     clear c6
     by_cases c7 : 0 ≤ x5_1
     ·rw [if_pos c7] at H
      have c7b0 : decide (0 ≤ x5_1) = true := decide_eq_true c7
      clear c7
      replace H := Option.bind_eq_some_iff.mp H
      obtain ⟨t112, A80, H⟩ := H
      replace H : (if t112 = true then (spec_l03Right.l0 k1 a1 (wrap64 (x5_1 + 1)) a0_0 a0_1 a0_2 a0_3 a0_4 a0_5 l0_6) else (some false)) = some r := H
      have A8 := Aside0.mk A80
      clear A80
      by_cases c9 : t112 = true
      ·subst c9
       have H1 : (spec_l03Right.l0 k1 a1 (wrap64 (x5_1 + 1)) a0_0 a0_1 a0_2 a0_3 a0_4 a0_5 l0_6) = some r := by rw [if_pos rfl] at H; exact H
       clear H
       have H := H1
       clear H1
       have H' := Aside0.mk H
       clear H
       have hcz10_0 := bc_ (v := (.int .i64 a0_0)) BK110 0
       have hcz10_1 := bc_ (v := (.int .i64 a0_1)) BK110 1
       have hcz10_2 := bc_ (v := (.int .i64 a0_2)) BK110 2
       have hcz10_3 := bc_ (v := (.int .i64 a0_3)) BK110 3
       have hcz10_4 := bc_ (v := (.string a0_4)) BK110 4
       have hcz10_5 := bc_ (v := (.string a0_5)) BK110 5
       have hcz10_6 := bc_ (v := (.slice A0_6 l0_6.length c0_6)) BK110 6
       have hfz10_0 := blk_frozen BK110.out 0
       have hfz10_1 := blk_frozen BK110.out 1
       have hfz10_2 := blk_frozen BK110.out 2
       have hfz10_3 := blk_frozen BK110.out 3
       have hfz10_4 := blk_frozen BK110.out 4
       have hfz10_5 := blk_frozen BK110.out 5
       have hfz10_6 := blk_frozen BK110.out 6
       have p111 : 0 ≤ (x5_1 : Int) := of_decide_eq_true (by first | (with_reducible assumption) | assumption)
       have q111 : x5_1 < (l0_6.length : Int) := of_decide_eq_true (by first | (with_reducible assumption) | assumption)
       obtain ⟨ad111, A111_6, c111_6, e111, hx111_0, hx111_1, hx111_2, hx111_3, hx111_4, hx111_5, hx111_6, hl111_6, hi111_6⟩ := at_T32 HR0_6.out x5_1 p111 q111
       cases e111
       replace hx111_0 := (HB.out.cell (World.block_lt_of_cell? w _ hx111_0)).trans hx111_0
       replace hx111_1 := (HB.out.cell (World.block_lt_of_cell? w _ hx111_1)).trans hx111_1
       replace hx111_2 := (HB.out.cell (World.block_lt_of_cell? w _ hx111_2)).trans hx111_2
       replace hx111_3 := (HB.out.cell (World.block_lt_of_cell? w _ hx111_3)).trans hx111_3
       replace hx111_4 := (HB.out.cell (World.block_lt_of_cell? w _ hx111_4)).trans hx111_4
       replace hx111_5 := (HB.out.cell (World.block_lt_of_cell? w _ hx111_5)).trans hx111_5
       replace hx111_6 := (HB.out.cell (World.block_lt_of_cell? w _ hx111_6)).trans hx111_6
       have HR111_6 := Aside0.mk hi111_6
       have HC111_6 := Aside0.mk hl111_6
       clear hi111_6 hl111_6
       replace p111 := eq_true p111
       replace q111 := eq_true q111
       go_wp2_with (first | ((with_reducible refine gate_callee (f := 59) rfl ?_); refine gsL_ (some 23) Try.func59 #[.agg #[.int .i64 ((rd_T32 l0_6 x5_1).f0), .int .i64 ((rd_T32 l0_6 x5_1).f1), .int .i64 ((rd_T32 l0_6 x5_1).f2.f0), .int .i64 ((rd_T32 l0_6 x5_1).f2.f1), .string ((rd_T32 l0_6 x5_1).f2.f2), .string ((rd_T32 l0_6 x5_1).f3), .slice A111_6 ((rd_T32 l0_6 x5_1).f4).length c111_6], .int .i64 (wrap64 (a1 - 1))] ?_; (with_reducible refine (ih k1 (by have := HK1.out; omega) ((rd_T32 l0_6 x5_1).f0) ((rd_T32 l0_6 x5_1).f1) ((rd_T32 l0_6 x5_1).f2.f0) ((rd_T32 l0_6 x5_1).f2.f1) ((rd_T32 l0_6 x5_1).f2.f2) ((rd_T32 l0_6 x5_1).f3) _ _ ((rd_T32 l0_6 x5_1).f4) (wrap64 (a1 - 1)) true _ ?side1 ?side2 A8.out).mono ?_); (case side1 => exact ck_ (Kd.C_below HR111_6.out HB.out)); (case side2 => exact HC111_6.out); rintro e w11 ⟨rfl, hb⟩; refine ⟨_, rfl, ?_⟩; replace BK110 := bkb_ BK110 hb; replace HB := bs_ hb; (try clear hb); (try clear hb2); (try clear hk); (try clear hi)))
       go_roundg k1
       case measure => have := HK1.out; omega
       case rel => exact ⟨(wrap64 (x5_1 + 1)), (by first | rfl | (simp; done) | (simp [*]; done)), H', ⟨by have := HK1.out; omega⟩, ⟨by (with_reducible repeat (first | refine blk_drewN ?_ _ | refine blk_drew ?_ | refine blk_alloc ?_ _)); exact BK110.out⟩, ⟨by repeat (first | (with_reducible first | exact HB.out | apply below_alloc | apply pw_below_drewN | apply below_drew1 | refine below_set ?_ GE110.out) | exact HB.out)⟩⟩
      ·replace c9 := Bool.eq_false_iff.mpr c9
       subst c9
       have H1 : (some false) = some r := by rw [if_neg (show ¬ (false = true) by decide)] at H; exact H
       clear H
       have H := H1
       clear H1
       obtain rfl := Option.some.inj H
       have hcz12_0 := bc_ (v := (.int .i64 a0_0)) BK110 0
       have hcz12_1 := bc_ (v := (.int .i64 a0_1)) BK110 1
       have hcz12_2 := bc_ (v := (.int .i64 a0_2)) BK110 2
       have hcz12_3 := bc_ (v := (.int .i64 a0_3)) BK110 3
       have hcz12_4 := bc_ (v := (.string a0_4)) BK110 4
       have hcz12_5 := bc_ (v := (.string a0_5)) BK110 5
       have hcz12_6 := bc_ (v := (.slice A0_6 l0_6.length c0_6)) BK110 6
       have hfz12_0 := blk_frozen BK110.out 0
       have hfz12_1 := blk_frozen BK110.out 1
       have hfz12_2 := blk_frozen BK110.out 2
       have hfz12_3 := blk_frozen BK110.out 3
       have hfz12_4 := blk_frozen BK110.out 4
       have hfz12_5 := blk_frozen BK110.out 5
       have hfz12_6 := blk_frozen BK110.out 6
       have p111 : 0 ≤ (x5_1 : Int) := of_decide_eq_true (by first | (with_reducible assumption) | assumption)
       have q111 : x5_1 < (l0_6.length : Int) := of_decide_eq_true (by first | (with_reducible assumption) | assumption)
       obtain ⟨ad111, A111_6, c111_6, e111, hx111_0, hx111_1, hx111_2, hx111_3, hx111_4, hx111_5, hx111_6, hl111_6, hi111_6⟩ := at_T32 HR0_6.out x5_1 p111 q111
       cases e111
       replace hx111_0 := (HB.out.cell (World.block_lt_of_cell? w _ hx111_0)).trans hx111_0
       replace hx111_1 := (HB.out.cell (World.block_lt_of_cell? w _ hx111_1)).trans hx111_1
       replace hx111_2 := (HB.out.cell (World.block_lt_of_cell? w _ hx111_2)).trans hx111_2
       replace hx111_3 := (HB.out.cell (World.block_lt_of_cell? w _ hx111_3)).trans hx111_3
       replace hx111_4 := (HB.out.cell (World.block_lt_of_cell? w _ hx111_4)).trans hx111_4
       replace hx111_5 := (HB.out.cell (World.block_lt_of_cell? w _ hx111_5)).trans hx111_5
       replace hx111_6 := (HB.out.cell (World.block_lt_of_cell? w _ hx111_6)).trans hx111_6
       have HR111_6 := Aside0.mk hi111_6
       have HC111_6 := Aside0.mk hl111_6
       clear hi111_6 hl111_6
       replace p111 := eq_true p111
       replace q111 := eq_true q111
       go_wp2_with (first | ((with_reducible refine gate_callee (f := 59) rfl ?_); refine gsL_ (some 23) Try.func59 #[.agg #[.int .i64 ((rd_T32 l0_6 x5_1).f0), .int .i64 ((rd_T32 l0_6 x5_1).f1), .int .i64 ((rd_T32 l0_6 x5_1).f2.f0), .int .i64 ((rd_T32 l0_6 x5_1).f2.f1), .string ((rd_T32 l0_6 x5_1).f2.f2), .string ((rd_T32 l0_6 x5_1).f3), .slice A111_6 ((rd_T32 l0_6 x5_1).f4).length c111_6], .int .i64 (wrap64 (a1 - 1))] ?_; (with_reducible refine (ih k1 (by have := HK1.out; omega) ((rd_T32 l0_6 x5_1).f0) ((rd_T32 l0_6 x5_1).f1) ((rd_T32 l0_6 x5_1).f2.f0) ((rd_T32 l0_6 x5_1).f2.f1) ((rd_T32 l0_6 x5_1).f2.f2) ((rd_T32 l0_6 x5_1).f3) _ _ ((rd_T32 l0_6 x5_1).f4) (wrap64 (a1 - 1)) false _ ?side1 ?side2 A8.out).mono ?_); (case side1 => exact ck_ (Kd.C_below HR111_6.out HB.out)); (case side2 => exact HC111_6.out); rintro e w13 ⟨rfl, hb⟩; refine ⟨_, rfl, ?_⟩; replace BK110 := bkb_ BK110 hb; replace HB := bs_ hb; (try clear hb); (try clear hb2); (try clear hk); (try clear hi)))
       go_ret
       exact ⟨er_, bb_⟩
     ·rw [if_neg c7] at H
      exact absurd H (by simp)
    ·rw [if_neg c6] at H
     have c6b0 : decide (x5_1 < (l0_6.length : Int)) = false := decide_eq_false c6
     clear c6
     have HC14 := Aside0.mk H
     clear H
     have hcz15_0 := bc_ (v := (.int .i64 a0_0)) BK110 0
     have hcz15_1 := bc_ (v := (.int .i64 a0_1)) BK110 1
     have hcz15_2 := bc_ (v := (.int .i64 a0_2)) BK110 2
     have hcz15_3 := bc_ (v := (.int .i64 a0_3)) BK110 3
     have hcz15_4 := bc_ (v := (.string a0_4)) BK110 4
     have hcz15_5 := bc_ (v := (.string a0_5)) BK110 5
     have hcz15_6 := bc_ (v := (.slice A0_6 l0_6.length c0_6)) BK110 6
     have hfz15_0 := blk_frozen BK110.out 0
     have hfz15_1 := blk_frozen BK110.out 1
     have hfz15_2 := blk_frozen BK110.out 2
     have hfz15_3 := blk_frozen BK110.out 3
     have hfz15_4 := blk_frozen BK110.out 4
     have hfz15_5 := blk_frozen BK110.out 5
     have hfz15_6 := blk_frozen BK110.out 6
     go_upto_region 8 with (fail)
     go_cut [6] (fun v6 wc => ∃ (kq : Nat) (x6_13 : Bool), v6 = .bool x6_13 ∧ Aside0 (spec_l03Right.j1 kq x6_13 a0_0 a0_1 a0_2 a0_3 a0_4 a0_5 l0_6 = some r) ∧ Aside0 (kq ≤ k1) ∧ Aside0 (wc.heap[gb110]? = some (.cells #[.int .i64 a0_0, .int .i64 a0_1, .int .i64 a0_2, .int .i64 a0_3, .string a0_4, .string a0_5, (.slice A0_6 l0_6.length c0_6)] 32 (0, 0))) ∧ Aside0 (Below w.heap.size w wc))
     case first =>
      have H := HC14.out
      clear HC14
      by_cases c16 : a0_1 = 0
      ·rw [if_pos c16] at H
       have c16b0 : (a0_1 == 0) = true := beq_iff_eq.mpr c16
       have c16b1 : (a0_1 != 0) = false := bne_eq_false_iff_eq.mpr c16
       clear c16
       (first | rw [c16b0] | (simp only [i64_w, i32_w]; rw [c16b0]) | skip)
       have H' := Aside0.mk H
       clear H
       have hcz17_0 := bc_ (v := (.int .i64 a0_0)) BK110 0
       have hcz17_1 := bc_ (v := (.int .i64 a0_1)) BK110 1
       have hcz17_2 := bc_ (v := (.int .i64 a0_2)) BK110 2
       have hcz17_3 := bc_ (v := (.int .i64 a0_3)) BK110 3
       have hcz17_4 := bc_ (v := (.string a0_4)) BK110 4
       have hcz17_5 := bc_ (v := (.string a0_5)) BK110 5
       have hcz17_6 := bc_ (v := (.slice A0_6 l0_6.length c0_6)) BK110 6
       have hfz17_0 := blk_frozen BK110.out 0
       have hfz17_1 := blk_frozen BK110.out 1
       have hfz17_2 := blk_frozen BK110.out 2
       have hfz17_3 := blk_frozen BK110.out 3
       have hfz17_4 := blk_frozen BK110.out 4
       have hfz17_5 := blk_frozen BK110.out 5
       have hfz17_6 := blk_frozen BK110.out 6
       go_wp2
       go_meet
       case rel => exact ⟨_, ((a0_2 == 0 && (a0_3 == 0 && (a0_4.toList == ([] : List UInt8))))), (by first | rfl | (simp; done) | (simp [*]; done)), H', ⟨by have := HK1.out; first | omega | exact Nat.le_refl _⟩, ⟨by (with_reducible repeat (first | refine blk_drewN ?_ _ | refine blk_drew ?_ | refine blk_alloc ?_ _)); exact BK110.out⟩, ⟨by repeat (first | (with_reducible first | exact HB.out | apply below_alloc | apply pw_below_drewN | apply below_drew1 | refine below_set ?_ GE110.out) | exact HB.out)⟩⟩
      ·rw [if_neg c16] at H
       have c16b0 : (a0_1 == 0) = false := beq_eq_false_iff_ne.mpr c16
       have c16b1 : (a0_1 != 0) = true := bne_iff_ne.mpr c16
       (first | rw [c16b0] | (simp only [i64_w, i32_w]; rw [c16b0]) | skip)
       have H' := Aside0.mk H
       clear H
       have hcz18_0 := bc_ (v := (.int .i64 a0_0)) BK110 0
       have hcz18_1 := bc_ (v := (.int .i64 a0_1)) BK110 1
       have hcz18_2 := bc_ (v := (.int .i64 a0_2)) BK110 2
       have hcz18_3 := bc_ (v := (.int .i64 a0_3)) BK110 3
       have hcz18_4 := bc_ (v := (.string a0_4)) BK110 4
       have hcz18_5 := bc_ (v := (.string a0_5)) BK110 5
       have hcz18_6 := bc_ (v := (.slice A0_6 l0_6.length c0_6)) BK110 6
       have hfz18_0 := blk_frozen BK110.out 0
       have hfz18_1 := blk_frozen BK110.out 1
       have hfz18_2 := blk_frozen BK110.out 2
       have hfz18_3 := blk_frozen BK110.out 3
       have hfz18_4 := blk_frozen BK110.out 4
       have hfz18_5 := blk_frozen BK110.out 5
       have hfz18_6 := blk_frozen BK110.out 6
       go_wp2
       go_meet
       case rel => exact ⟨_, (false), (by first | rfl | (simp; done) | (simp [*]; done)), H', ⟨by have := HK1.out; first | omega | exact Nat.le_refl _⟩, ⟨by (with_reducible repeat (first | refine blk_drewN ?_ _ | refine blk_drew ?_ | refine blk_alloc ?_ _)); exact BK110.out⟩, ⟨by repeat (first | (with_reducible first | exact HB.out | apply below_alloc | apply pw_below_drewN | apply below_drew1 | refine below_set ?_ GE110.out) | exact HB.out)⟩⟩
     case rest =>
      clear HC14
      try clear c1
      try clear p1
      try clear q1
      try clear hx1
      try clear p2
      try clear c3
      try clear c3b0
      try clear c5
      try clear c6
      try clear c6b0
      try clear p6
      try clear c7
      try clear c7b0
      try clear c9
      try clear c11
      try clear p11
      try clear q11
      try clear hx11
      try clear c16
      try clear c16b0
      try clear c16b1
      try clear hcz10_0
      try clear hcz10_1
      try clear hcz10_2
      try clear hcz10_3
      try clear hcz10_4
      try clear hcz10_5
      try clear hcz10_6
      try clear hcz12_0
      try clear hcz12_1
      try clear hcz12_2
      try clear hcz12_3
      try clear hcz12_4
      try clear hcz12_5
      try clear hcz12_6
      try clear hcz15_0
      try clear hcz15_1
      try clear hcz15_2
      try clear hcz15_3
      try clear hcz15_4
      try clear hcz15_5
      try clear hcz15_6
      try clear hcz17_0
      try clear hcz17_1
      try clear hcz17_2
      try clear hcz17_3
      try clear hcz17_4
      try clear hcz17_5
      try clear hcz17_6
      try clear hcz18_0
      try clear hcz18_1
      try clear hcz18_2
      try clear hcz18_3
      try clear hcz18_4
      try clear hcz18_5
      try clear hcz18_6
      try clear hfz10_0
      try clear hfz10_1
      try clear hfz10_2
      try clear hfz10_3
      try clear hfz10_4
      try clear hfz10_5
      try clear hfz10_6
      try clear hfz12_0
      try clear hfz12_1
      try clear hfz12_2
      try clear hfz12_3
      try clear hfz12_4
      try clear hfz12_5
      try clear hfz12_6
      try clear hfz15_0
      try clear hfz15_1
      try clear hfz15_2
      try clear hfz15_3
      try clear hfz15_4
      try clear hfz15_5
      try clear hfz15_6
      try clear hfz17_0
      try clear hfz17_1
      try clear hfz17_2
      try clear hfz17_3
      try clear hfz17_4
      try clear hfz17_5
      try clear hfz17_6
      try clear hfz18_0
      try clear hfz18_1
      try clear hfz18_2
      try clear hfz18_3
      try clear hfz18_4
      try clear hfz18_5
      try clear hfz18_6
      try clear hx111_0
      try clear hx111_1
      try clear hx111_2
      try clear hx111_3
      try clear hx111_4
      try clear hx111_5
      try clear hx111_6
      try clear p111
      try clear p2
      try clear q111
      obtain ⟨kq, x6_13, rfl, HA, HJ13, BK110, HB⟩ := hcut
      cases kq with
      | zero => exact absurd HA.out (by simp [spec_l03Right.j1])
      | succ kj13 =>
       have H := HA.out
       clear HA
       simp only [spec_l03Right.j1] at H
       by_cases c19 : a0_0 = 0
       ·rw [if_pos c19] at H
        have c19b0 : (a0_0 == 0) = true := beq_iff_eq.mpr c19
        have c19b1 : (a0_0 != 0) = false := bne_eq_false_iff_eq.mpr c19
        clear c19
        replace H := Option.bind_eq_some_iff.mp H
        obtain ⟨t113, A200, H⟩ := H
        replace H : (if t113 = true then (if (a0_2 == 0 && (a0_3 == 0 && (a0_4.toList == ([] : List UInt8)))) = true then (if a0_5.toList = ([] : List UInt8) then (some ((l0_6.length : Int) == 0)) else (some false)) else (some false)) else (some false)) = some r := H
        have A20 := Aside0.mk A200
        clear A200
        by_cases c21 : t113 = true
        ·subst c21
         have H1 : (if (a0_2 == 0 && (a0_3 == 0 && (a0_4.toList == ([] : List UInt8)))) = true then (if a0_5.toList = ([] : List UInt8) then (some ((l0_6.length : Int) == 0)) else (some false)) else (some false)) = some r := by rw [if_pos rfl] at H; exact H
         clear H
         have H := H1
         clear H1
         by_cases c22 : (a0_2 == 0 && (a0_3 == 0 && (a0_4.toList == ([] : List UInt8)))) = true
         ·rw [if_pos c22] at H
          have c22b0 : (a0_2 == 0 && (a0_3 == 0 && (a0_4.toList == ([] : List UInt8)))) = true := c22
          (try (have c22bz : (a0_2 == 0 && (a0_3 == 0 && (a0_4.toList.isEmpty))) = true := by simpa using c22b0))
          (try (have c22b1 : decide (a0_2 = 0 && (a0_3 == 0 && (a0_4.toList == ([] : List UInt8)))) = true := by simpa using c22))
          (try (have c22b2 : (a0_2 == 0 && (a0_3 == 0 && (a0_4.toList == ([] : List UInt8)))) = true := by simpa using c22))
          clear c22
          by_cases c23 : a0_5.toList = ([] : List UInt8)
          ·rw [if_pos c23] at H
           have c23b0 : (a0_5.toList == ([] : List UInt8)) = true := beq_iff_eq.mpr c23
           have c23b1 : (a0_5.toList != ([] : List UInt8)) = false := bne_eq_false_iff_eq.mpr c23
           clear c23
           obtain rfl := Option.some.inj H
           have hcz24_0 := bc_ (v := (.int .i64 a0_0)) BK110 0
           have hcz24_1 := bc_ (v := (.int .i64 a0_1)) BK110 1
           have hcz24_2 := bc_ (v := (.int .i64 a0_2)) BK110 2
           have hcz24_3 := bc_ (v := (.int .i64 a0_3)) BK110 3
           have hcz24_4 := bc_ (v := (.string a0_4)) BK110 4
           have hcz24_5 := bc_ (v := (.string a0_5)) BK110 5
           have hcz24_6 := bc_ (v := (.slice A0_6 l0_6.length c0_6)) BK110 6
           have hfz24_0 := blk_frozen BK110.out 0
           have hfz24_1 := blk_frozen BK110.out 1
           have hfz24_2 := blk_frozen BK110.out 2
           have hfz24_3 := blk_frozen BK110.out 3
           have hfz24_4 := blk_frozen BK110.out 4
           have hfz24_5 := blk_frozen BK110.out 5
           have hfz24_6 := blk_frozen BK110.out 6
           go_wp2_with (first | ((with_reducible refine gate_callee (f := 69) rfl ?_); refine gsL_ (some 40) Try.func69 #[.int .i64 a0_1, .int .i64 0, .int .i64 11] ?_; (with_reducible refine (spec_l01In.calls a0_1 0 11 true _ A20.out).mono ?_); rintro e w' ⟨rfl, ⟨nd, rfl⟩⟩; refine ⟨_, rfl, ?_⟩))
           go_ret
           exact ⟨er_, bb_⟩
          ·rw [if_neg c23] at H
           have c23b0 : (a0_5.toList == ([] : List UInt8)) = false := beq_eq_false_iff_ne.mpr c23
           have c23b1 : (a0_5.toList != ([] : List UInt8)) = true := bne_iff_ne.mpr c23
           obtain rfl := Option.some.inj H
           have hcz25_0 := bc_ (v := (.int .i64 a0_0)) BK110 0
           have hcz25_1 := bc_ (v := (.int .i64 a0_1)) BK110 1
           have hcz25_2 := bc_ (v := (.int .i64 a0_2)) BK110 2
           have hcz25_3 := bc_ (v := (.int .i64 a0_3)) BK110 3
           have hcz25_4 := bc_ (v := (.string a0_4)) BK110 4
           have hcz25_5 := bc_ (v := (.string a0_5)) BK110 5
           have hcz25_6 := bc_ (v := (.slice A0_6 l0_6.length c0_6)) BK110 6
           have hfz25_0 := blk_frozen BK110.out 0
           have hfz25_1 := blk_frozen BK110.out 1
           have hfz25_2 := blk_frozen BK110.out 2
           have hfz25_3 := blk_frozen BK110.out 3
           have hfz25_4 := blk_frozen BK110.out 4
           have hfz25_5 := blk_frozen BK110.out 5
           have hfz25_6 := blk_frozen BK110.out 6
           go_wp2_with (first | ((with_reducible refine gate_callee (f := 69) rfl ?_); refine gsL_ (some 40) Try.func69 #[.int .i64 a0_1, .int .i64 0, .int .i64 11] ?_; (with_reducible refine (spec_l01In.calls a0_1 0 11 true _ A20.out).mono ?_); rintro e w' ⟨rfl, ⟨nd, rfl⟩⟩; refine ⟨_, rfl, ?_⟩))
           go_ret
           exact ⟨er_, bb_⟩
         ·rw [if_neg c22] at H
          have c22b0 : (a0_2 == 0 && (a0_3 == 0 && (a0_4.toList == ([] : List UInt8)))) = false := by simpa using c22
          (try (have c22bz : (a0_2 == 0 && (a0_3 == 0 && (a0_4.toList.isEmpty))) = false := by simpa using c22b0))
          (try (have c22b1 : decide (a0_2 = 0 && (a0_3 == 0 && (a0_4.toList == ([] : List UInt8)))) = false := by simpa using c22))
          (try (have c22b2 : (a0_2 == 0 && (a0_3 == 0 && (a0_4.toList == ([] : List UInt8)))) = false := by simpa using c22))
          (try (have c22b3 : ¬ (a0_2 = 0 && (a0_3 == 0 && (a0_4.toList == ([] : List UInt8)))) := by simpa using c22))
          clear c22
          obtain rfl := Option.some.inj H
          have hcz26_0 := bc_ (v := (.int .i64 a0_0)) BK110 0
          have hcz26_1 := bc_ (v := (.int .i64 a0_1)) BK110 1
          have hcz26_2 := bc_ (v := (.int .i64 a0_2)) BK110 2
          have hcz26_3 := bc_ (v := (.int .i64 a0_3)) BK110 3
          have hcz26_4 := bc_ (v := (.string a0_4)) BK110 4
          have hcz26_5 := bc_ (v := (.string a0_5)) BK110 5
          have hcz26_6 := bc_ (v := (.slice A0_6 l0_6.length c0_6)) BK110 6
          have hfz26_0 := blk_frozen BK110.out 0
          have hfz26_1 := blk_frozen BK110.out 1
          have hfz26_2 := blk_frozen BK110.out 2
          have hfz26_3 := blk_frozen BK110.out 3
          have hfz26_4 := blk_frozen BK110.out 4
          have hfz26_5 := blk_frozen BK110.out 5
          have hfz26_6 := blk_frozen BK110.out 6
          go_wp2_with (first | ((with_reducible refine gate_callee (f := 69) rfl ?_); refine gsL_ (some 40) Try.func69 #[.int .i64 a0_1, .int .i64 0, .int .i64 11] ?_; (with_reducible refine (spec_l01In.calls a0_1 0 11 true _ A20.out).mono ?_); rintro e w' ⟨rfl, ⟨nd, rfl⟩⟩; refine ⟨_, rfl, ?_⟩))
          go_ret
          exact ⟨er_, bb_⟩
        ·replace c21 := Bool.eq_false_iff.mpr c21
         subst c21
         have H1 : (some false) = some r := by rw [if_neg (show ¬ (false = true) by decide)] at H; exact H
         clear H
         have H := H1
         clear H1
         obtain rfl := Option.some.inj H
         have hcz27_0 := bc_ (v := (.int .i64 a0_0)) BK110 0
         have hcz27_1 := bc_ (v := (.int .i64 a0_1)) BK110 1
         have hcz27_2 := bc_ (v := (.int .i64 a0_2)) BK110 2
         have hcz27_3 := bc_ (v := (.int .i64 a0_3)) BK110 3
         have hcz27_4 := bc_ (v := (.string a0_4)) BK110 4
         have hcz27_5 := bc_ (v := (.string a0_5)) BK110 5
         have hcz27_6 := bc_ (v := (.slice A0_6 l0_6.length c0_6)) BK110 6
         have hfz27_0 := blk_frozen BK110.out 0
         have hfz27_1 := blk_frozen BK110.out 1
         have hfz27_2 := blk_frozen BK110.out 2
         have hfz27_3 := blk_frozen BK110.out 3
         have hfz27_4 := blk_frozen BK110.out 4
         have hfz27_5 := blk_frozen BK110.out 5
         have hfz27_6 := blk_frozen BK110.out 6
         go_wp2_with (first | ((with_reducible refine gate_callee (f := 69) rfl ?_); refine gsL_ (some 40) Try.func69 #[.int .i64 a0_1, .int .i64 0, .int .i64 11] ?_; (with_reducible refine (spec_l01In.calls a0_1 0 11 false _ A20.out).mono ?_); rintro e w' ⟨rfl, ⟨nd, rfl⟩⟩; refine ⟨_, rfl, ?_⟩))
         go_ret
         exact ⟨er_, bb_⟩
       ·rw [if_neg c19] at H
        have c19b0 : (a0_0 == 0) = false := beq_eq_false_iff_ne.mpr c19
        have c19b1 : (a0_0 != 0) = true := bne_iff_ne.mpr c19
        by_cases c28 : a0_0 = 1
        ·rw [if_pos c28] at H
         have c28b0 : (a0_0 == 1) = true := beq_iff_eq.mpr c28
         have c28b1 : (a0_0 != 1) = false := bne_eq_false_iff_eq.mpr c28
         clear c28
         replace H := Option.bind_eq_some_iff.mp H
         obtain ⟨t114, A290, H⟩ := H
         replace H : (if t114 = true then (if a0_1 = 0 then (if a0_5.toList = ([] : List UInt8) then (some ((l0_6.length : Int) == 0)) else (some false)) else (some false)) else (some false)) = some r := H
         have A29 := Aside0.mk A290
         clear A290
         by_cases c30 : t114 = true
         ·subst c30
          have H1 : (if a0_1 = 0 then (if a0_5.toList = ([] : List UInt8) then (some ((l0_6.length : Int) == 0)) else (some false)) else (some false)) = some r := by rw [if_pos rfl] at H; exact H
          clear H
          have H := H1
          clear H1
          by_cases c31 : a0_1 = 0
          ·rw [if_pos c31] at H
           have c31b0 : (a0_1 == 0) = true := beq_iff_eq.mpr c31
           have c31b1 : (a0_1 != 0) = false := bne_eq_false_iff_eq.mpr c31
           clear c31
           by_cases c32 : a0_5.toList = ([] : List UInt8)
           ·rw [if_pos c32] at H
            have c32b0 : (a0_5.toList == ([] : List UInt8)) = true := beq_iff_eq.mpr c32
            have c32b1 : (a0_5.toList != ([] : List UInt8)) = false := bne_eq_false_iff_eq.mpr c32
            clear c32
            obtain rfl := Option.some.inj H
            have hcz33_0 := bc_ (v := (.int .i64 a0_0)) BK110 0
            have hcz33_1 := bc_ (v := (.int .i64 a0_1)) BK110 1
            have hcz33_2 := bc_ (v := (.int .i64 a0_2)) BK110 2
            have hcz33_3 := bc_ (v := (.int .i64 a0_3)) BK110 3
            have hcz33_4 := bc_ (v := (.string a0_4)) BK110 4
            have hcz33_5 := bc_ (v := (.string a0_5)) BK110 5
            have hcz33_6 := bc_ (v := (.slice A0_6 l0_6.length c0_6)) BK110 6
            have hfz33_0 := blk_frozen BK110.out 0
            have hfz33_1 := blk_frozen BK110.out 1
            have hfz33_2 := blk_frozen BK110.out 2
            have hfz33_3 := blk_frozen BK110.out 3
            have hfz33_4 := blk_frozen BK110.out 4
            have hfz33_5 := blk_frozen BK110.out 5
            have hfz33_6 := blk_frozen BK110.out 6
            go_wp2_with (first | ((with_reducible refine gate_callee (f := 116) rfl ?_); refine gsL_ (some 62) Try.func116 #[.agg #[.int .i64 a0_2, .int .i64 a0_3, .string a0_4]] ?_; (with_reducible refine (spec_ValueOk.calls a0_2 a0_3 a0_4 true _ A29.out).mono ?_); rintro e w34 ⟨rfl, hb⟩; refine ⟨_, rfl, ?_⟩; replace BK110 := bkb_ BK110 hb; replace HB := bs_ hb; (try clear hb); (try clear hb2); (try clear hk); (try clear hi); have hcz35_0 := bc_ (v := (.int .i64 a0_0)) BK110 0; have hcz35_1 := bc_ (v := (.int .i64 a0_1)) BK110 1; have hcz35_2 := bc_ (v := (.int .i64 a0_2)) BK110 2; have hcz35_3 := bc_ (v := (.int .i64 a0_3)) BK110 3; have hcz35_4 := bc_ (v := (.string a0_4)) BK110 4; have hcz35_5 := bc_ (v := (.string a0_5)) BK110 5; have hcz35_6 := bc_ (v := (.slice A0_6 l0_6.length c0_6)) BK110 6; have hfz35_0 := blk_frozen BK110.out 0; have hfz35_1 := blk_frozen BK110.out 1; have hfz35_2 := blk_frozen BK110.out 2; have hfz35_3 := blk_frozen BK110.out 3; have hfz35_4 := blk_frozen BK110.out 4; have hfz35_5 := blk_frozen BK110.out 5; have hfz35_6 := blk_frozen BK110.out 6))
            go_ret
            exact ⟨er_, bb_⟩
           ·rw [if_neg c32] at H
            have c32b0 : (a0_5.toList == ([] : List UInt8)) = false := beq_eq_false_iff_ne.mpr c32
            have c32b1 : (a0_5.toList != ([] : List UInt8)) = true := bne_iff_ne.mpr c32
            obtain rfl := Option.some.inj H
            have hcz36_0 := bc_ (v := (.int .i64 a0_0)) BK110 0
            have hcz36_1 := bc_ (v := (.int .i64 a0_1)) BK110 1
            have hcz36_2 := bc_ (v := (.int .i64 a0_2)) BK110 2
            have hcz36_3 := bc_ (v := (.int .i64 a0_3)) BK110 3
            have hcz36_4 := bc_ (v := (.string a0_4)) BK110 4
            have hcz36_5 := bc_ (v := (.string a0_5)) BK110 5
            have hcz36_6 := bc_ (v := (.slice A0_6 l0_6.length c0_6)) BK110 6
            have hfz36_0 := blk_frozen BK110.out 0
            have hfz36_1 := blk_frozen BK110.out 1
            have hfz36_2 := blk_frozen BK110.out 2
            have hfz36_3 := blk_frozen BK110.out 3
            have hfz36_4 := blk_frozen BK110.out 4
            have hfz36_5 := blk_frozen BK110.out 5
            have hfz36_6 := blk_frozen BK110.out 6
            go_wp2_with (first | ((with_reducible refine gate_callee (f := 116) rfl ?_); refine gsL_ (some 62) Try.func116 #[.agg #[.int .i64 a0_2, .int .i64 a0_3, .string a0_4]] ?_; (with_reducible refine (spec_ValueOk.calls a0_2 a0_3 a0_4 true _ A29.out).mono ?_); rintro e w37 ⟨rfl, hb⟩; refine ⟨_, rfl, ?_⟩; replace BK110 := bkb_ BK110 hb; replace HB := bs_ hb; (try clear hb); (try clear hb2); (try clear hk); (try clear hi); have hcz38_0 := bc_ (v := (.int .i64 a0_0)) BK110 0; have hcz38_1 := bc_ (v := (.int .i64 a0_1)) BK110 1; have hcz38_2 := bc_ (v := (.int .i64 a0_2)) BK110 2; have hcz38_3 := bc_ (v := (.int .i64 a0_3)) BK110 3; have hcz38_4 := bc_ (v := (.string a0_4)) BK110 4; have hcz38_5 := bc_ (v := (.string a0_5)) BK110 5; have hcz38_6 := bc_ (v := (.slice A0_6 l0_6.length c0_6)) BK110 6; have hfz38_0 := blk_frozen BK110.out 0; have hfz38_1 := blk_frozen BK110.out 1; have hfz38_2 := blk_frozen BK110.out 2; have hfz38_3 := blk_frozen BK110.out 3; have hfz38_4 := blk_frozen BK110.out 4; have hfz38_5 := blk_frozen BK110.out 5; have hfz38_6 := blk_frozen BK110.out 6))
            go_ret
            exact ⟨er_, bb_⟩
          ·rw [if_neg c31] at H
           have c31b0 : (a0_1 == 0) = false := beq_eq_false_iff_ne.mpr c31
           have c31b1 : (a0_1 != 0) = true := bne_iff_ne.mpr c31
           obtain rfl := Option.some.inj H
           have hcz39_0 := bc_ (v := (.int .i64 a0_0)) BK110 0
           have hcz39_1 := bc_ (v := (.int .i64 a0_1)) BK110 1
           have hcz39_2 := bc_ (v := (.int .i64 a0_2)) BK110 2
           have hcz39_3 := bc_ (v := (.int .i64 a0_3)) BK110 3
           have hcz39_4 := bc_ (v := (.string a0_4)) BK110 4
           have hcz39_5 := bc_ (v := (.string a0_5)) BK110 5
           have hcz39_6 := bc_ (v := (.slice A0_6 l0_6.length c0_6)) BK110 6
           have hfz39_0 := blk_frozen BK110.out 0
           have hfz39_1 := blk_frozen BK110.out 1
           have hfz39_2 := blk_frozen BK110.out 2
           have hfz39_3 := blk_frozen BK110.out 3
           have hfz39_4 := blk_frozen BK110.out 4
           have hfz39_5 := blk_frozen BK110.out 5
           have hfz39_6 := blk_frozen BK110.out 6
           go_wp2_with (first | ((with_reducible refine gate_callee (f := 116) rfl ?_); refine gsL_ (some 62) Try.func116 #[.agg #[.int .i64 a0_2, .int .i64 a0_3, .string a0_4]] ?_; (with_reducible refine (spec_ValueOk.calls a0_2 a0_3 a0_4 true _ A29.out).mono ?_); rintro e w40 ⟨rfl, hb⟩; refine ⟨_, rfl, ?_⟩; replace BK110 := bkb_ BK110 hb; replace HB := bs_ hb; (try clear hb); (try clear hb2); (try clear hk); (try clear hi); have hcz41_0 := bc_ (v := (.int .i64 a0_0)) BK110 0; have hcz41_1 := bc_ (v := (.int .i64 a0_1)) BK110 1; have hcz41_2 := bc_ (v := (.int .i64 a0_2)) BK110 2; have hcz41_3 := bc_ (v := (.int .i64 a0_3)) BK110 3; have hcz41_4 := bc_ (v := (.string a0_4)) BK110 4; have hcz41_5 := bc_ (v := (.string a0_5)) BK110 5; have hcz41_6 := bc_ (v := (.slice A0_6 l0_6.length c0_6)) BK110 6; have hfz41_0 := blk_frozen BK110.out 0; have hfz41_1 := blk_frozen BK110.out 1; have hfz41_2 := blk_frozen BK110.out 2; have hfz41_3 := blk_frozen BK110.out 3; have hfz41_4 := blk_frozen BK110.out 4; have hfz41_5 := blk_frozen BK110.out 5; have hfz41_6 := blk_frozen BK110.out 6))
           go_ret
           exact ⟨er_, bb_⟩
         ·replace c30 := Bool.eq_false_iff.mpr c30
          subst c30
          have H1 : (some false) = some r := by rw [if_neg (show ¬ (false = true) by decide)] at H; exact H
          clear H
          have H := H1
          clear H1
          obtain rfl := Option.some.inj H
          have hcz42_0 := bc_ (v := (.int .i64 a0_0)) BK110 0
          have hcz42_1 := bc_ (v := (.int .i64 a0_1)) BK110 1
          have hcz42_2 := bc_ (v := (.int .i64 a0_2)) BK110 2
          have hcz42_3 := bc_ (v := (.int .i64 a0_3)) BK110 3
          have hcz42_4 := bc_ (v := (.string a0_4)) BK110 4
          have hcz42_5 := bc_ (v := (.string a0_5)) BK110 5
          have hcz42_6 := bc_ (v := (.slice A0_6 l0_6.length c0_6)) BK110 6
          have hfz42_0 := blk_frozen BK110.out 0
          have hfz42_1 := blk_frozen BK110.out 1
          have hfz42_2 := blk_frozen BK110.out 2
          have hfz42_3 := blk_frozen BK110.out 3
          have hfz42_4 := blk_frozen BK110.out 4
          have hfz42_5 := blk_frozen BK110.out 5
          have hfz42_6 := blk_frozen BK110.out 6
          go_wp2_with (first | ((with_reducible refine gate_callee (f := 116) rfl ?_); refine gsL_ (some 62) Try.func116 #[.agg #[.int .i64 a0_2, .int .i64 a0_3, .string a0_4]] ?_; (with_reducible refine (spec_ValueOk.calls a0_2 a0_3 a0_4 false _ A29.out).mono ?_); rintro e w43 ⟨rfl, hb⟩; refine ⟨_, rfl, ?_⟩; replace BK110 := bkb_ BK110 hb; replace HB := bs_ hb; (try clear hb); (try clear hb2); (try clear hk); (try clear hi)))
          go_ret
          exact ⟨er_, bb_⟩
        ·rw [if_neg c28] at H
         have c28b0 : (a0_0 == 1) = false := beq_eq_false_iff_ne.mpr c28
         have c28b1 : (a0_0 != 1) = true := bne_iff_ne.mpr c28
         by_cases c44 : a0_0 = 2
         ·rw [if_pos c44] at H
          have c44b0 : (a0_0 == 2) = true := beq_iff_eq.mpr c44
          have c44b1 : (a0_0 != 2) = false := bne_eq_false_iff_eq.mpr c44
          clear c44
          by_cases c45 : x6_13 = true
          ·subst c45
           have H1 : (if (l0_6.length : Int) = 2 then ((spec_l03Has.f kj13 (([(⟨#[43]⟩ : ByteArray), (⟨#[45]⟩ : ByteArray), (⟨#[42]⟩ : ByteArray), (⟨#[47]⟩ : ByteArray), (⟨#[61]⟩ : ByteArray), (⟨#[60]⟩ : ByteArray), (⟨#[126]⟩ : ByteArray), (⟨#[97, 110, 100]⟩ : ByteArray), (⟨#[111, 114]⟩ : ByteArray)] : List ByteArray)) a0_5).bind fun t118 => (some t118)) else (some false)) = some r := by rw [if_pos rfl] at H; exact H
           clear H
           have H := H1
           clear H1
           by_cases c46 : (l0_6.length : Int) = 2
           ·rw [if_pos c46] at H
            have c46b0 : ((l0_6.length : Int) == 2) = true := beq_iff_eq.mpr c46
            have c46b1 : ((l0_6.length : Int) != 2) = false := bne_eq_false_iff_eq.mpr c46
            clear c46
            obtain ⟨y115, hy115⟩ : ∃ y_ : List ByteArray, y_ = (([(⟨#[43]⟩ : ByteArray), (⟨#[45]⟩ : ByteArray), (⟨#[42]⟩ : ByteArray), (⟨#[47]⟩ : ByteArray), (⟨#[61]⟩ : ByteArray), (⟨#[60]⟩ : ByteArray), (⟨#[126]⟩ : ByteArray), (⟨#[97, 110, 100]⟩ : ByteArray), (⟨#[111, 114]⟩ : ByteArray)] : List ByteArray)) := ⟨_, rfl⟩
            replace H : ((spec_l03Has.f kj13 y115 a0_5).bind fun t118 => (some t118)) = some r := by first | (rw [hy115]; with_reducible exact H) | (have H2_ := (Option.bind_some _ _).symm.trans H; rw [hy115]; with_reducible exact H2_) | (have H2_ := (Option.bind_some _ _).symm.trans H; with_reducible exact H2_) | with_reducible exact H | (rw [hy115]; exact H) | exact H
            have Ny115 := Aside0.mk hy115
            clear hy115
            replace H := Option.bind_eq_some_iff.mp H
            obtain ⟨t118, A470, H⟩ := H
            replace H : (some t118) = some r := H
            have A47 := Aside0.mk A470
            clear A470
            obtain rfl := Option.some.inj H
            have hcz48_0 := bc_ (v := (.int .i64 a0_0)) BK110 0
            have hcz48_1 := bc_ (v := (.int .i64 a0_1)) BK110 1
            have hcz48_2 := bc_ (v := (.int .i64 a0_2)) BK110 2
            have hcz48_3 := bc_ (v := (.int .i64 a0_3)) BK110 3
            have hcz48_4 := bc_ (v := (.string a0_4)) BK110 4
            have hcz48_5 := bc_ (v := (.string a0_5)) BK110 5
            have hcz48_6 := bc_ (v := (.slice A0_6 l0_6.length c0_6)) BK110 6
            have hfz48_0 := blk_frozen BK110.out 0
            have hfz48_1 := blk_frozen BK110.out 1
            have hfz48_2 := blk_frozen BK110.out 2
            have hfz48_3 := blk_frozen BK110.out 3
            have hfz48_4 := blk_frozen BK110.out 4
            have hfz48_5 := blk_frozen BK110.out 5
            have hfz48_6 := blk_frozen BK110.out 6
            go_wp2_with (first | ((with_reducible refine gate_dst (N := 89) rfl ?_); (try (refine gate_guard (by rfl) ?_; dsimp only)); refine Kd.R_lit Kd.string _ 9 ?hg (N := 89) ?hd (xs := ([(⟨#[43]⟩ : ByteArray), (⟨#[45]⟩ : ByteArray), (⟨#[42]⟩ : ByteArray), (⟨#[47]⟩ : ByteArray), (⟨#[61]⟩ : ByteArray), (⟨#[60]⟩ : ByteArray), (⟨#[126]⟩ : ByteArray), (⟨#[97, 110, 100]⟩ : ByteArray), (⟨#[111, 114]⟩ : ByteArray)] : List ByteArray)) (inner := [.string (⟨#[43]⟩ : ByteArray), .string (⟨#[45]⟩ : ByteArray), .string (⟨#[42]⟩ : ByteArray), .string (⟨#[47]⟩ : ByteArray), .string (⟨#[61]⟩ : ByteArray), .string (⟨#[60]⟩ : ByteArray), .string (⟨#[126]⟩ : ByteArray), .string (⟨#[97, 110, 100]⟩ : ByteArray), .string (⟨#[111, 114]⟩ : ByteArray)]) (ok := fun _ => True) (okp := fun _ => True) ?hr ?hp (fun _ hk => hk) trivial (Below.refl _ _) (Nat.le_refl _) (by simp) ?_; (case hd => rfl); (case hg => rfl); (case hr => first | (go_simp; done) | (go_simp; rfl)); (case hp => exact (Reps.one (show Kd.M Kd.string _ _ _ (⟨#[43]⟩ : ByteArray) [.string (⟨#[43]⟩ : ByteArray)] from rfl) (Reps.one (show Kd.M Kd.string _ _ _ (⟨#[45]⟩ : ByteArray) [.string (⟨#[45]⟩ : ByteArray)] from rfl) (Reps.one (show Kd.M Kd.string _ _ _ (⟨#[42]⟩ : ByteArray) [.string (⟨#[42]⟩ : ByteArray)] from rfl) (Reps.one (show Kd.M Kd.string _ _ _ (⟨#[47]⟩ : ByteArray) [.string (⟨#[47]⟩ : ByteArray)] from rfl) (Reps.one (show Kd.M Kd.string _ _ _ (⟨#[61]⟩ : ByteArray) [.string (⟨#[61]⟩ : ByteArray)] from rfl) (Reps.one (show Kd.M Kd.string _ _ _ (⟨#[60]⟩ : ByteArray) [.string (⟨#[60]⟩ : ByteArray)] from rfl) (Reps.one (show Kd.M Kd.string _ _ _ (⟨#[126]⟩ : ByteArray) [.string (⟨#[126]⟩ : ByteArray)] from rfl) (Reps.one (show Kd.M Kd.string _ _ _ (⟨#[97, 110, 100]⟩ : ByteArray) [.string (⟨#[97, 110, 100]⟩ : ByteArray)] from rfl) (Reps.one (show Kd.M Kd.string _ _ _ (⟨#[111, 114]⟩ : ByteArray) [.string (⟨#[111, 114]⟩ : ByteArray)] from rfl) (Reps.none _ _))))))))))); intro v116 w49 ho50 hb hg_ hnew_; clear hg_ hnew_; (first | rw [← Ny115.out] at ho50 | (simp only [Int.reduceToNat] at ho50; rw [← Ny115.out] at ho50)); have HO117 := Aside0.mk (Kd.R_lower ho50 (below_size bb_)); replace BK110 := bkb_ BK110 hb; replace HB := bs_ hb; clear hb ho50; have hcz51_0 := bc_ (v := (.int .i64 a0_0)) BK110 0; have hcz51_1 := bc_ (v := (.int .i64 a0_1)) BK110 1; have hcz51_2 := bc_ (v := (.int .i64 a0_2)) BK110 2; have hcz51_3 := bc_ (v := (.int .i64 a0_3)) BK110 3; have hcz51_4 := bc_ (v := (.string a0_4)) BK110 4; have hcz51_5 := bc_ (v := (.string a0_5)) BK110 5; have hcz51_6 := bc_ (v := (.slice A0_6 l0_6.length c0_6)) BK110 6; have hfz51_0 := blk_frozen BK110.out 0; have hfz51_1 := blk_frozen BK110.out 1; have hfz51_2 := blk_frozen BK110.out 2; have hfz51_3 := blk_frozen BK110.out 3; have hfz51_4 := blk_frozen BK110.out 4; have hfz51_5 := blk_frozen BK110.out 5; have hfz51_6 := blk_frozen BK110.out 6; obtain ⟨Ao52, co52, eo52⟩ := Kd.R_slice HO117.out; subst eo52) | (go_at_call 117; (with_reducible refine (spec_l03Has.calls kj13 _ _ y115 a0_5 t118 _ ?side1 ?side2 A47.out).mono ?_); (case side1 => exact ck_ (Kd.R_reads' HO117.out).2.2); (case side2 => exact (Kd.R_reads' HO117.out).2.1); rintro e w' ⟨rfl, ⟨nd, rfl⟩⟩))
            go_ret
            exact ⟨er_, bb_⟩
           ·rw [if_neg c46] at H
            have c46b0 : ((l0_6.length : Int) == 2) = false := beq_eq_false_iff_ne.mpr c46
            have c46b1 : ((l0_6.length : Int) != 2) = true := bne_iff_ne.mpr c46
            obtain rfl := Option.some.inj H
            have hcz53_0 := bc_ (v := (.int .i64 a0_0)) BK110 0
            have hcz53_1 := bc_ (v := (.int .i64 a0_1)) BK110 1
            have hcz53_2 := bc_ (v := (.int .i64 a0_2)) BK110 2
            have hcz53_3 := bc_ (v := (.int .i64 a0_3)) BK110 3
            have hcz53_4 := bc_ (v := (.string a0_4)) BK110 4
            have hcz53_5 := bc_ (v := (.string a0_5)) BK110 5
            have hcz53_6 := bc_ (v := (.slice A0_6 l0_6.length c0_6)) BK110 6
            have hfz53_0 := blk_frozen BK110.out 0
            have hfz53_1 := blk_frozen BK110.out 1
            have hfz53_2 := blk_frozen BK110.out 2
            have hfz53_3 := blk_frozen BK110.out 3
            have hfz53_4 := blk_frozen BK110.out 4
            have hfz53_5 := blk_frozen BK110.out 5
            have hfz53_6 := blk_frozen BK110.out 6
            go_wp2
            go_ret
            exact ⟨er_, bb_⟩
          ·replace c45 := Bool.eq_false_iff.mpr c45
           subst c45
           have H1 : (some false) = some r := by rw [if_neg (show ¬ (false = true) by decide)] at H; exact H
           clear H
           have H := H1
           clear H1
           obtain rfl := Option.some.inj H
           have hcz54_0 := bc_ (v := (.int .i64 a0_0)) BK110 0
           have hcz54_1 := bc_ (v := (.int .i64 a0_1)) BK110 1
           have hcz54_2 := bc_ (v := (.int .i64 a0_2)) BK110 2
           have hcz54_3 := bc_ (v := (.int .i64 a0_3)) BK110 3
           have hcz54_4 := bc_ (v := (.string a0_4)) BK110 4
           have hcz54_5 := bc_ (v := (.string a0_5)) BK110 5
           have hcz54_6 := bc_ (v := (.slice A0_6 l0_6.length c0_6)) BK110 6
           have hfz54_0 := blk_frozen BK110.out 0
           have hfz54_1 := blk_frozen BK110.out 1
           have hfz54_2 := blk_frozen BK110.out 2
           have hfz54_3 := blk_frozen BK110.out 3
           have hfz54_4 := blk_frozen BK110.out 4
           have hfz54_5 := blk_frozen BK110.out 5
           have hfz54_6 := blk_frozen BK110.out 6
           go_wp2
           go_ret
           exact ⟨er_, bb_⟩
         ·rw [if_neg c44] at H
          have c44b0 : (a0_0 == 2) = false := beq_eq_false_iff_ne.mpr c44
          have c44b1 : (a0_0 != 2) = true := bne_iff_ne.mpr c44
          by_cases c55 : a0_0 = 3
          ·rw [if_pos c55] at H
           have c55b0 : (a0_0 == 3) = true := beq_iff_eq.mpr c55
           have c55b1 : (a0_0 != 3) = false := bne_eq_false_iff_eq.mpr c55
           clear c55
           by_cases c56 : x6_13 = true
           ·subst c56
            have H1 : (if a0_5.toList = ([] : List UInt8) then (some ((l0_6.length : Int) == 1)) else (some false)) = some r := by rw [if_pos rfl] at H; exact H
            clear H
            have H := H1
            clear H1
            by_cases c57 : a0_5.toList = ([] : List UInt8)
            ·rw [if_pos c57] at H
             have c57b0 : (a0_5.toList == ([] : List UInt8)) = true := beq_iff_eq.mpr c57
             have c57b1 : (a0_5.toList != ([] : List UInt8)) = false := bne_eq_false_iff_eq.mpr c57
             clear c57
             obtain rfl := Option.some.inj H
             have hcz58_0 := bc_ (v := (.int .i64 a0_0)) BK110 0
             have hcz58_1 := bc_ (v := (.int .i64 a0_1)) BK110 1
             have hcz58_2 := bc_ (v := (.int .i64 a0_2)) BK110 2
             have hcz58_3 := bc_ (v := (.int .i64 a0_3)) BK110 3
             have hcz58_4 := bc_ (v := (.string a0_4)) BK110 4
             have hcz58_5 := bc_ (v := (.string a0_5)) BK110 5
             have hcz58_6 := bc_ (v := (.slice A0_6 l0_6.length c0_6)) BK110 6
             have hfz58_0 := blk_frozen BK110.out 0
             have hfz58_1 := blk_frozen BK110.out 1
             have hfz58_2 := blk_frozen BK110.out 2
             have hfz58_3 := blk_frozen BK110.out 3
             have hfz58_4 := blk_frozen BK110.out 4
             have hfz58_5 := blk_frozen BK110.out 5
             have hfz58_6 := blk_frozen BK110.out 6
             go_wp2
             go_ret
             exact ⟨er_, bb_⟩
            ·rw [if_neg c57] at H
             have c57b0 : (a0_5.toList == ([] : List UInt8)) = false := beq_eq_false_iff_ne.mpr c57
             have c57b1 : (a0_5.toList != ([] : List UInt8)) = true := bne_iff_ne.mpr c57
             obtain rfl := Option.some.inj H
             have hcz59_0 := bc_ (v := (.int .i64 a0_0)) BK110 0
             have hcz59_1 := bc_ (v := (.int .i64 a0_1)) BK110 1
             have hcz59_2 := bc_ (v := (.int .i64 a0_2)) BK110 2
             have hcz59_3 := bc_ (v := (.int .i64 a0_3)) BK110 3
             have hcz59_4 := bc_ (v := (.string a0_4)) BK110 4
             have hcz59_5 := bc_ (v := (.string a0_5)) BK110 5
             have hcz59_6 := bc_ (v := (.slice A0_6 l0_6.length c0_6)) BK110 6
             have hfz59_0 := blk_frozen BK110.out 0
             have hfz59_1 := blk_frozen BK110.out 1
             have hfz59_2 := blk_frozen BK110.out 2
             have hfz59_3 := blk_frozen BK110.out 3
             have hfz59_4 := blk_frozen BK110.out 4
             have hfz59_5 := blk_frozen BK110.out 5
             have hfz59_6 := blk_frozen BK110.out 6
             go_wp2
             go_ret
             exact ⟨er_, bb_⟩
           ·replace c56 := Bool.eq_false_iff.mpr c56
            subst c56
            have H1 : (some false) = some r := by rw [if_neg (show ¬ (false = true) by decide)] at H; exact H
            clear H
            have H := H1
            clear H1
            obtain rfl := Option.some.inj H
            have hcz60_0 := bc_ (v := (.int .i64 a0_0)) BK110 0
            have hcz60_1 := bc_ (v := (.int .i64 a0_1)) BK110 1
            have hcz60_2 := bc_ (v := (.int .i64 a0_2)) BK110 2
            have hcz60_3 := bc_ (v := (.int .i64 a0_3)) BK110 3
            have hcz60_4 := bc_ (v := (.string a0_4)) BK110 4
            have hcz60_5 := bc_ (v := (.string a0_5)) BK110 5
            have hcz60_6 := bc_ (v := (.slice A0_6 l0_6.length c0_6)) BK110 6
            have hfz60_0 := blk_frozen BK110.out 0
            have hfz60_1 := blk_frozen BK110.out 1
            have hfz60_2 := blk_frozen BK110.out 2
            have hfz60_3 := blk_frozen BK110.out 3
            have hfz60_4 := blk_frozen BK110.out 4
            have hfz60_5 := blk_frozen BK110.out 5
            have hfz60_6 := blk_frozen BK110.out 6
            go_wp2
            go_ret
            exact ⟨er_, bb_⟩
          ·rw [if_neg c55] at H
           have c55b0 : (a0_0 == 3) = false := beq_eq_false_iff_ne.mpr c55
           have c55b1 : (a0_0 != 3) = true := bne_iff_ne.mpr c55
           by_cases c61 : a0_0 = 4
           ·rw [if_pos c61] at H
            have c61b0 : (a0_0 == 4) = true := beq_iff_eq.mpr c61
            have c61b1 : (a0_0 != 4) = false := bne_eq_false_iff_eq.mpr c61
            clear c61
            by_cases c62 : x6_13 = true
            ·subst c62
             have H1 : (if a0_5.toList = ([] : List UInt8) then (some ((l0_6.length : Int) == 1)) else (some false)) = some r := by rw [if_pos rfl] at H; exact H
             clear H
             have H := H1
             clear H1
             by_cases c63 : a0_5.toList = ([] : List UInt8)
             ·rw [if_pos c63] at H
              have c63b0 : (a0_5.toList == ([] : List UInt8)) = true := beq_iff_eq.mpr c63
              have c63b1 : (a0_5.toList != ([] : List UInt8)) = false := bne_eq_false_iff_eq.mpr c63
              clear c63
              obtain rfl := Option.some.inj H
              have hcz64_0 := bc_ (v := (.int .i64 a0_0)) BK110 0
              have hcz64_1 := bc_ (v := (.int .i64 a0_1)) BK110 1
              have hcz64_2 := bc_ (v := (.int .i64 a0_2)) BK110 2
              have hcz64_3 := bc_ (v := (.int .i64 a0_3)) BK110 3
              have hcz64_4 := bc_ (v := (.string a0_4)) BK110 4
              have hcz64_5 := bc_ (v := (.string a0_5)) BK110 5
              have hcz64_6 := bc_ (v := (.slice A0_6 l0_6.length c0_6)) BK110 6
              have hfz64_0 := blk_frozen BK110.out 0
              have hfz64_1 := blk_frozen BK110.out 1
              have hfz64_2 := blk_frozen BK110.out 2
              have hfz64_3 := blk_frozen BK110.out 3
              have hfz64_4 := blk_frozen BK110.out 4
              have hfz64_5 := blk_frozen BK110.out 5
              have hfz64_6 := blk_frozen BK110.out 6
              go_wp2
              go_ret
              exact ⟨er_, bb_⟩
             ·rw [if_neg c63] at H
              have c63b0 : (a0_5.toList == ([] : List UInt8)) = false := beq_eq_false_iff_ne.mpr c63
              have c63b1 : (a0_5.toList != ([] : List UInt8)) = true := bne_iff_ne.mpr c63
              obtain rfl := Option.some.inj H
              have hcz65_0 := bc_ (v := (.int .i64 a0_0)) BK110 0
              have hcz65_1 := bc_ (v := (.int .i64 a0_1)) BK110 1
              have hcz65_2 := bc_ (v := (.int .i64 a0_2)) BK110 2
              have hcz65_3 := bc_ (v := (.int .i64 a0_3)) BK110 3
              have hcz65_4 := bc_ (v := (.string a0_4)) BK110 4
              have hcz65_5 := bc_ (v := (.string a0_5)) BK110 5
              have hcz65_6 := bc_ (v := (.slice A0_6 l0_6.length c0_6)) BK110 6
              have hfz65_0 := blk_frozen BK110.out 0
              have hfz65_1 := blk_frozen BK110.out 1
              have hfz65_2 := blk_frozen BK110.out 2
              have hfz65_3 := blk_frozen BK110.out 3
              have hfz65_4 := blk_frozen BK110.out 4
              have hfz65_5 := blk_frozen BK110.out 5
              have hfz65_6 := blk_frozen BK110.out 6
              go_wp2
              go_ret
              exact ⟨er_, bb_⟩
            ·replace c62 := Bool.eq_false_iff.mpr c62
             subst c62
             have H1 : (some false) = some r := by rw [if_neg (show ¬ (false = true) by decide)] at H; exact H
             clear H
             have H := H1
             clear H1
             obtain rfl := Option.some.inj H
             have hcz66_0 := bc_ (v := (.int .i64 a0_0)) BK110 0
             have hcz66_1 := bc_ (v := (.int .i64 a0_1)) BK110 1
             have hcz66_2 := bc_ (v := (.int .i64 a0_2)) BK110 2
             have hcz66_3 := bc_ (v := (.int .i64 a0_3)) BK110 3
             have hcz66_4 := bc_ (v := (.string a0_4)) BK110 4
             have hcz66_5 := bc_ (v := (.string a0_5)) BK110 5
             have hcz66_6 := bc_ (v := (.slice A0_6 l0_6.length c0_6)) BK110 6
             have hfz66_0 := blk_frozen BK110.out 0
             have hfz66_1 := blk_frozen BK110.out 1
             have hfz66_2 := blk_frozen BK110.out 2
             have hfz66_3 := blk_frozen BK110.out 3
             have hfz66_4 := blk_frozen BK110.out 4
             have hfz66_5 := blk_frozen BK110.out 5
             have hfz66_6 := blk_frozen BK110.out 6
             go_wp2
             go_ret
             exact ⟨er_, bb_⟩
           ·rw [if_neg c61] at H
            have c61b0 : (a0_0 == 4) = false := beq_eq_false_iff_ne.mpr c61
            have c61b1 : (a0_0 != 4) = true := bne_iff_ne.mpr c61
            obtain rfl := Option.some.inj H
            have hcz67_0 := bc_ (v := (.int .i64 a0_0)) BK110 0
            have hcz67_1 := bc_ (v := (.int .i64 a0_1)) BK110 1
            have hcz67_2 := bc_ (v := (.int .i64 a0_2)) BK110 2
            have hcz67_3 := bc_ (v := (.int .i64 a0_3)) BK110 3
            have hcz67_4 := bc_ (v := (.string a0_4)) BK110 4
            have hcz67_5 := bc_ (v := (.string a0_5)) BK110 5
            have hcz67_6 := bc_ (v := (.slice A0_6 l0_6.length c0_6)) BK110 6
            have hfz67_0 := blk_frozen BK110.out 0
            have hfz67_1 := blk_frozen BK110.out 1
            have hfz67_2 := blk_frozen BK110.out 2
            have hfz67_3 := blk_frozen BK110.out 3
            have hfz67_4 := blk_frozen BK110.out 4
            have hfz67_5 := blk_frozen BK110.out 5
            have hfz67_6 := blk_frozen BK110.out 6
            go_wp2
            go_ret
            exact ⟨er_, bb_⟩

end Go.Proofs.Ytmkllhkhiefbnaa.PFnExactExpOk
