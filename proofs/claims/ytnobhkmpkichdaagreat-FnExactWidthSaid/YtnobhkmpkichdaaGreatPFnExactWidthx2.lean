-- WRITTEN BY xprint.py, a program of this session over the kit's printer: by nobody's hand
-- PRESSED4 -- PRESSED TWICE3 -- PRESSED TWICE
import Derived.Test.YtnobhkmpkichdaaGreatPress
import Derived.Test.YtnobhkmpkichdaaGreatPress3
import Derived.Test.YtnobhkmpkichdaaGreatPFnExactWidthx0
namespace Go.Proofs.YtnobhkmpkichdaaGreat.PFnExactWidth
set_option maxRecDepth 100000
open Go.RowKit Go.Proofs.YtnobhkmpkichdaaGreatW.PrintWords Go.Proofs.YtnobhkmpkichdaaGreatW.PrintLast Go.Proofs.YtnobhkmpkichdaaGreatW.PrintMore
attribute [local go_sem] max2_int min2_int max_two min_two max_three min_three max_four min_four
set_option linter.unusedVariables false
set_option linter.unusedSimpArgs false

/-! ### laws_szValue: function 46 -/
def laws_szValue.f (aD : Int) (aI : Int) (aJ : ByteArray) (a1 : Int) : Option (Int) := if (wrap64 (a1 - (aJ.size : Int))) < 0 then (some (-1)) else (some (wrap64 (a1 - (aJ.size : Int))))
set_option maxHeartbeats 8000000 in
theorem laws_szValue.calls (aD : Int) (aI : Int) (aJ : ByteArray) (a1 : Int) (r : Int) (w : World) (h : laws_szValue.f aD aI aJ a1 = some r) :
  Calls Tryz.prog 46 #[.agg #[.int .i64 aD, .int .i64 aI, .string aJ], .int .i64 a1] w fun e w' => e = .returned (.int .i64 r) ∧ Below w.heap.size w w' := by
 have aTU := Tryz.underlying24
 have HB := am_ (Below.refl w.heap.size w)
 have H : (if (wrap64 (a1 - (aJ.size : Int))) < 0 then (some (-1)) else (some (wrap64 (a1 - (aJ.size : Int))))) = some r := h
 clear h
 by_cases c3 : (wrap64 (a1 - (aJ.size : Int))) < 0
 ·rw [if_pos c3] at H
  have fB := decide_eq_true c3; clear c3; obtain rfl := Option.some.inj H
  go_enter Tryz.func46, Tryz.ntmps46
  go_wp2_with (first | ((with_reducible refine gate_dst (N := 2) rfl ?_); refine bx_ 2 #[.int .i64 aD, .int .i64 aI, .string aJ] 24 ?_; intro cD0 hg w4 hbox hb; have aUS := am_ (hbox); have bNT := gw_ hg; have bZA := gw_ hg; replace HB := bs_ hb; clear hb hbox hg; obtain ⟨TI, U2, TY, TT, TV, U1⟩ := b3_ aUS))
  go_ret
  exact ⟨er_, bb_⟩
 ·rw [if_neg c3] at H
  have fB := decide_eq_false c3; clear c3; obtain rfl := Option.some.inj H
  go_enter Tryz.func46, Tryz.ntmps46
  go_wp2_with (first | ((with_reducible refine gate_dst (N := 2) rfl ?_); refine bx_ 2 #[.int .i64 aD, .int .i64 aI, .string aJ] 24 ?_; intro cD0 hg w6 hbox hb; have aUS := am_ (hbox); have bNT := gw_ hg; have bZA := gw_ hg; replace HB := bs_ hb; clear hb hbox hg; obtain ⟨ET, F6, JB, FP, F5, J9⟩ := b3_ aUS))
  go_ret
  exact ⟨er_, bb_⟩

/-! ### laws_szValueS: function 111 -/
def laws_szValueS.l0 : Nat → List (S24) → Int → Int → Option (Int)
 | 0, _, _, _ => none
 | k + 1, x0, x1, x5 => if x5 < (x0.length : Int) then (if 0 ≤ x5 then ((laws_szValue.f ((gF x0 x5).f0) ((gF x0 x5).f1) ((gF x0 x5).f2) x1).bind fun aF1 => (if aF1 < 0 then (some (-1)) else (laws_szValueS.l0 k x0 aF1 (wrap64 (x5 + 1))))) else (none)) else (some x1)
def laws_szValueS.f (k : Nat) (l0 : List (S24)) (a1 : Int) : Option (Int) := if (wrap64 (a1 - (l0.length : Int))) < 0 then (some (-1)) else (laws_szValueS.l0 k l0 (wrap64 (a1 - (l0.length : Int))) 0)
set_option maxHeartbeats 8000000 in
theorem laws_szValueS.calls (k : Nat) (A0 : Option Addr) (c0 : Nat) (l0 : List (S24)) (a1 : Int) (r : Int) (w : World) (hr0 : Kd.C k24 w A0 l0.length l0) (hc0 : l0.length ≤ c0) (h : laws_szValueS.f k l0 a1 = some r) :
  Calls Tryz.prog 111 #[.slice A0 l0.length c0, .int .i64 a1] w fun e w' => e = .returned (.int .i64 r) ∧ Below w.heap.size w w' := by
 have aTU := Tryz.underlying24
 have jE := am_ hr0
 have wH := am_ hc0
 clear hr0 hc0
 have HB := am_ (Below.refl w.heap.size w)
 have H : (if (wrap64 (a1 - (l0.length : Int))) < 0 then (some (-1)) else (laws_szValueS.l0 k l0 (wrap64 (a1 - (l0.length : Int))) 0)) = some r := h
 clear h
 by_cases c3 : (wrap64 (a1 - (l0.length : Int))) < 0
 ·rw [if_pos c3] at H
  have fB := decide_eq_true c3; clear c3; obtain rfl := Option.some.inj H
  go_enter Tryz.func111, Tryz.ntmps111
  go_wp2
  go_ret
  exact ⟨er_, bb_⟩
 ·rw [if_neg c3] at H
  have fB := decide_eq_false c3; clear c3; have H' := am_ H; clear H
  go_enter Tryz.func111, Tryz.ntmps111
  go_wp2
  go_loopg [1, 5] k (fun kq v1 v5 w' => ∃ (jI : Int) (aC : Int), v1 = .int .i64 jI ∧ v5 = .int .i64 aC ∧ Aside0 (laws_szValueS.l0 kq l0 jI aC = some r) ∧ Aside0 (kq ≤ k) ∧ Aside0 (Below w.heap.size w w'))
  case atStart => exact ⟨(wrap64 (a1 - (l0.length : Int))), (0), rs_, rs_, H', ⟨Nat.le_refl _⟩, ⟨bb_⟩⟩
  case round =>
   clear H'; (try clear c1); (try clear p2); (try clear c3); (try clear fB); obtain ⟨jI, aC, rfl, rfl, HA, kY, HB⟩ := hrel
   cases gk with
   | zero => exact absurd HA.out (by simp [laws_szValueS.l0])
   | succ k1 =>
    have H := HA.out; clear HA; simp only [laws_szValueS.l0] at H
    by_cases c4 : aC < (l0.length : Int)
    ·rw [if_pos c4] at H
     have gB := decide_eq_true c4; clear c4
     by_cases c5 : 0 ≤ aC
     ·rw [if_pos c5] at H
      have pV := decide_eq_true c5; clear c5; replace H := bsi_ H; obtain ⟨aF1, A60, H⟩ := H
      try dsimp only at H
      have A6 := am_ A60; clear A60
      by_cases c7 : aF1 < 0
      ·rw [if_pos c7] at H
       have gJ := decide_eq_true c7; clear c7; obtain rfl := Option.some.inj H; (have aER : 0 ≤ (aC : Int) := oa_); (have aFQ : aC < (l0.length : Int) := oa_); obtain ⟨c7V, bB4, NE, QC, RZ⟩ := aF9 jE.out aC aER aFQ; cases bB4; replace NE := hb_ HB NE; replace QC := hb_ HB QC; replace RZ := hb_ HB RZ; replace aER := eq_true aER; replace aFQ := eq_true aFQ
       go_wp2_with (first | ((with_reducible refine gate_callee (f := 46) rfl ?_); refine gsL_ (some 23) Tryz.func46 #[.agg #[.int .i64 ((gF l0 aC).f0), .int .i64 ((gF l0 aC).f1), .string ((gF l0 aC).f2)], .int .i64 jI] ?_; (with_reducible refine (laws_szValue.calls ((gF l0 aC).f0) ((gF l0 aC).f1) ((gF l0 aC).f2) jI aF1 _ A6.out).mono ?_); rintro e w8 ⟨rfl, hb⟩; refine ⟨_, rfl, ?_⟩; replace HB := bs_ hb; (try clear hb)))
       go_ret
       exact ⟨er_, bb_⟩
      ·rw [if_neg c7] at H
       have gJ := decide_eq_false c7; clear c7; have H' := am_ H; clear H; (have aER : 0 ≤ (aC : Int) := oa_); (have aFQ : aC < (l0.length : Int) := oa_); obtain ⟨c7V, bB4, NE, QC, RZ⟩ := aF9 jE.out aC aER aFQ; cases bB4; replace NE := hb_ HB NE; replace QC := hb_ HB QC; replace RZ := hb_ HB RZ; replace aER := eq_true aER; replace aFQ := eq_true aFQ
       go_wp2_with (first | ((with_reducible refine gate_callee (f := 46) rfl ?_); refine gsL_ (some 23) Tryz.func46 #[.agg #[.int .i64 ((gF l0 aC).f0), .int .i64 ((gF l0 aC).f1), .string ((gF l0 aC).f2)], .int .i64 jI] ?_; (with_reducible refine (laws_szValue.calls ((gF l0 aC).f0) ((gF l0 aC).f1) ((gF l0 aC).f2) jI aF1 _ A6.out).mono ?_); rintro e w9 ⟨rfl, hb⟩; refine ⟨_, rfl, ?_⟩; replace HB := bs_ hb; (try clear hb)))
       go_roundg k1
       case measure => have := kY.out; omega
       case rel => exact ⟨(aF1), (wrap64 (aC + 1)), rs_, rs_, H', ⟨by have := kY.out; omega⟩, ⟨bb_⟩⟩
     ·rw [if_neg c5] at H
      exact nn_ H
    ·rw [if_neg c4] at H
     have gB := decide_eq_false c4; clear c4; obtain rfl := Option.some.inj H
     go_wp2
     go_ret
     exact ⟨er_, bb_⟩

/-! ### laws_szCounted: function 91 -/
def laws_szCounted.f (k : Nat) (iK : List (S24)) (aI : Int) (a1 : Int) : Option (Int) := (laws_szValueS.f k iK a1).bind fun t105 => (if t105 < 0 then (some (-1)) else (some t105))
set_option maxHeartbeats 8000000 in
theorem laws_szCounted.calls (k : Nat) (z8 : Option Addr) (yV : Nat) (iK : List (S24)) (aI : Int) (a1 : Int) (r : Int) (w : World) (UH : Kd.C k24 w z8 iK.length iK) (UN : iK.length ≤ yV) (h : laws_szCounted.f k iK aI a1 = some r) :
  Calls Tryz.prog 91 #[.agg #[.slice z8 iK.length yV, .int .i64 aI], .int .i64 a1] w fun e w' => e = .returned (.int .i64 r) ∧ Below w.heap.size w w' := by
 have aRF := Tryz.underlying136
 have UG := am_ UH
 have UJ := am_ UN
 clear UH UN
 have HB := am_ (Below.refl w.heap.size w)
 have H : ((laws_szValueS.f k iK a1).bind fun t105 => (if t105 < 0 then (some (-1)) else (some t105))) = some r := h
 clear h
 replace H := bsi_ H
 obtain ⟨t105, E8, H⟩ := H
 try dsimp only at H
 have A3 := am_ E8
 clear E8
 by_cases c4 : t105 < 0
 ·rw [if_pos c4] at H
  have gB := decide_eq_true c4; clear c4; obtain rfl := Option.some.inj H
  go_enter Tryz.func91, Tryz.ntmps91
  go_wp2_with (first | ((with_reducible refine gate_dst (N := 2) rfl ?_); refine bx_ 2 #[.slice z8 iK.length yV, .int .i64 aI] 136 ?_; intro bVB hg w5 hbox hb; have YT := am_ (hbox); have bUY := gw_ hg; have bL5 := gw_ hg; replace HB := bs_ hb; clear hb hbox hg; obtain ⟨jR, jT, jU, jS⟩ := b2_ YT) | ((with_reducible refine gate_callee (f := 111) rfl ?_); refine gsL_ (some 8) Tryz.func111 #[.slice z8 iK.length yV, .int .i64 a1] ?_; (with_reducible refine (laws_szValueS.calls k _ _ iK a1 t105 _ ?aK ?aT A3.out).mono ?_); (case aK => exact ck_ (Kd.C_below UG.out HB.out)); (case aT => exact UJ.out); rintro e w7 ⟨rfl, hb⟩; refine ⟨_, rfl, ?_⟩; replace YT := bkb_ YT hb; replace HB := bs_ hb; (try clear hb)))
  go_ret
  exact ⟨er_, bb_⟩
 ·rw [if_neg c4] at H
  have gB := decide_eq_false c4; clear c4; obtain rfl := Option.some.inj H
  go_enter Tryz.func91, Tryz.ntmps91
  go_wp2_with (first | ((with_reducible refine gate_dst (N := 2) rfl ?_); refine bx_ 2 #[.slice z8 iK.length yV, .int .i64 aI] 136 ?_; intro bVB hg w8 hbox hb; have YT := am_ (hbox); have bUY := gw_ hg; have bL5 := gw_ hg; replace HB := bs_ hb; clear hb hbox hg; obtain ⟨nW, nV, nR, oL⟩ := b2_ YT) | ((with_reducible refine gate_callee (f := 111) rfl ?_); refine gsL_ (some 8) Tryz.func111 #[.slice z8 iK.length yV, .int .i64 a1] ?_; (with_reducible refine (laws_szValueS.calls k _ _ iK a1 t105 _ ?aK ?aT A3.out).mono ?_); (case aK => exact ck_ (Kd.C_below UG.out HB.out)); (case aT => exact UJ.out); rintro e w10 ⟨rfl, hb⟩; refine ⟨_, rfl, ?_⟩; replace YT := bkb_ YT hb; replace HB := bs_ hb; (try clear hb)))
  go_ret
  exact ⟨er_, bb_⟩

/-! ### laws_szCountedS: function 66 -/
def laws_szCountedS.l0 : Nat → List (S136) → Int → Int → Option (Int)
 | 0, _, _, _ => none
 | k + 1, x0, x1, x5 => if x5 < (x0.length : Int) then (if 0 ≤ x5 then ((laws_szCounted.f k ((gI x0 x5).f0) ((gI x0 x5).f1) x1).bind fun t107 => (if t107 < 0 then (some (-1)) else (laws_szCountedS.l0 k x0 t107 (wrap64 (x5 + 1))))) else (none)) else (some x1)
def laws_szCountedS.f (k : Nat) (l0 : List (S136)) (a1 : Int) : Option (Int) := if (wrap64 (a1 - (l0.length : Int))) < 0 then (some (-1)) else (laws_szCountedS.l0 k l0 (wrap64 (a1 - (l0.length : Int))) 0)
set_option maxHeartbeats 8000000 in
theorem laws_szCountedS.calls (k : Nat) (A0 : Option Addr) (c0 : Nat) (l0 : List (S136)) (a1 : Int) (r : Int) (w : World) (hr0 : Kd.C k136 w A0 l0.length l0) (hc0 : l0.length ≤ c0) (h : laws_szCountedS.f k l0 a1 = some r) :
  Calls Tryz.prog 66 #[.slice A0 l0.length c0, .int .i64 a1] w fun e w' => e = .returned (.int .i64 r) ∧ Below w.heap.size w w' := by
 have aRF := Tryz.underlying136
 have jE := am_ hr0
 have wH := am_ hc0
 clear hr0 hc0
 have HB := am_ (Below.refl w.heap.size w)
 have H : (if (wrap64 (a1 - (l0.length : Int))) < 0 then (some (-1)) else (laws_szCountedS.l0 k l0 (wrap64 (a1 - (l0.length : Int))) 0)) = some r := h
 clear h
 by_cases c3 : (wrap64 (a1 - (l0.length : Int))) < 0
 ·rw [if_pos c3] at H
  have fB := decide_eq_true c3; clear c3; obtain rfl := Option.some.inj H
  go_enter Tryz.func66, Tryz.ntmps66
  go_wp2
  go_ret
  exact ⟨er_, bb_⟩
 ·rw [if_neg c3] at H
  have fB := decide_eq_false c3; clear c3; have H' := am_ H; clear H
  go_enter Tryz.func66, Tryz.ntmps66
  go_wp2
  go_loopg [1, 5] k (fun kq v1 v5 w' => ∃ (jI : Int) (aC : Int), v1 = .int .i64 jI ∧ v5 = .int .i64 aC ∧ Aside0 (laws_szCountedS.l0 kq l0 jI aC = some r) ∧ Aside0 (kq ≤ k) ∧ Aside0 (Below w.heap.size w w'))
  case atStart => exact ⟨(wrap64 (a1 - (l0.length : Int))), (0), rs_, rs_, H', ⟨Nat.le_refl _⟩, ⟨bb_⟩⟩
  case round =>
   clear H'; (try clear p2); (try clear c3); (try clear fB); obtain ⟨jI, aC, rfl, rfl, HA, kY, HB⟩ := hrel
   cases gk with
   | zero => exact absurd HA.out (by simp [laws_szCountedS.l0])
   | succ k1 =>
    have H := HA.out; clear HA; simp only [laws_szCountedS.l0] at H
    by_cases c4 : aC < (l0.length : Int)
    ·rw [if_pos c4] at H
     have gB := decide_eq_true c4; clear c4
     by_cases c5 : 0 ≤ aC
     ·rw [if_pos c5] at H
      have pV := decide_eq_true c5; clear c5; replace H := bsi_ H; obtain ⟨t107, A60, H⟩ := H
      try dsimp only at H
      have A6 := am_ A60; clear A60
      by_cases c7 : t107 < 0
      ·rw [if_pos c7] at H
       have gJ := decide_eq_true c7; clear c7; obtain rfl := Option.some.inj H; (have aEI : 0 ≤ (aC : Int) := oa_); (have aFM : aC < (l0.length : Int) := oa_); obtain ⟨bPM, aFU, aET, bA8, QO, RL, PH, Q7⟩ := a3L jE.out aC aEI aFM; cases bA8; replace QO := hb_ HB QO; replace RL := hb_ HB RL; have a8F := am_ Q7; have a98 := am_ PH; clear Q7 PH; replace aEI := eq_true aEI; replace aFM := eq_true aFM
       go_wp2_with (first | ((with_reducible refine gate_callee (f := 91) rfl ?_); refine gsL_ (some 23) Tryz.func91 #[.agg #[.slice aFU ((gI l0 aC).f0).length aET, .int .i64 ((gI l0 aC).f1)], .int .i64 jI] ?_; (with_reducible refine (laws_szCounted.calls k1 _ _ ((gI l0 aC).f0) ((gI l0 aC).f1) jI t107 _ ?aK ?aT A6.out).mono ?_); (case aK => exact ck_ (Kd.C_below a8F.out HB.out)); (case aT => exact a98.out); rintro e w8 ⟨rfl, hb⟩; refine ⟨_, rfl, ?_⟩; replace HB := bs_ hb; (try clear hb)))
       go_ret
       exact ⟨er_, bb_⟩
      ·rw [if_neg c7] at H
       have gJ := decide_eq_false c7; clear c7; have H' := am_ H; clear H; (have aEI : 0 ≤ (aC : Int) := oa_); (have aFM : aC < (l0.length : Int) := oa_); obtain ⟨bPM, aFU, aET, bA8, QO, RL, PH, Q7⟩ := a3L jE.out aC aEI aFM; cases bA8; replace QO := hb_ HB QO; replace RL := hb_ HB RL; have a8F := am_ Q7; have a98 := am_ PH; clear Q7 PH; replace aEI := eq_true aEI; replace aFM := eq_true aFM
       go_wp2_with (first | ((with_reducible refine gate_callee (f := 91) rfl ?_); refine gsL_ (some 23) Tryz.func91 #[.agg #[.slice aFU ((gI l0 aC).f0).length aET, .int .i64 ((gI l0 aC).f1)], .int .i64 jI] ?_; (with_reducible refine (laws_szCounted.calls k1 _ _ ((gI l0 aC).f0) ((gI l0 aC).f1) jI t107 _ ?aK ?aT A6.out).mono ?_); (case aK => exact ck_ (Kd.C_below a8F.out HB.out)); (case aT => exact a98.out); rintro e w9 ⟨rfl, hb⟩; refine ⟨_, rfl, ?_⟩; replace HB := bs_ hb; (try clear hb)))
       go_roundg k1
       case measure => have := kY.out; omega
       case rel => exact ⟨(t107), (wrap64 (aC + 1)), rs_, rs_, H', ⟨by have := kY.out; omega⟩, ⟨bb_⟩⟩
     ·rw [if_neg c5] at H
      exact nn_ H
    ·rw [if_neg c4] at H
     have gB := decide_eq_false c4; clear c4; obtain rfl := Option.some.inj H
     go_wp2
     go_ret
     exact ⟨er_, bb_⟩

/-! ### laws_szBag: function 45 -/
def laws_szBag.f (k : Nat) (aD : Int) (iT : List (S136)) (a1 : Int) : Option (Int) := (laws_szCountedS.f k iT a1).bind fun t109 => (if t109 < 0 then (some (-1)) else (some t109))
set_option maxHeartbeats 8000000 in
theorem laws_szBag.calls (k : Nat) (aD : Int) (zH : Option Addr) (zL : Nat) (iT : List (S136)) (a1 : Int) (r : Int) (w : World) (UI : Kd.C k136 w zH iT.length iT) (UD : iT.length ≤ zL) (h : laws_szBag.f k aD iT a1 = some r) :
  Calls Tryz.prog 45 #[.agg #[.int .i64 aD, .slice zH iT.length zL], .int .i64 a1] w fun e w' => e = .returned (.int .i64 r) ∧ Below w.heap.size w w' := by
 have b9I := Tryz.underlying57
 have X8 := am_ UI
 have Y3 := am_ UD
 clear UI UD
 have HB := am_ (Below.refl w.heap.size w)
 have H : ((laws_szCountedS.f k iT a1).bind fun t109 => (if t109 < 0 then (some (-1)) else (some t109))) = some r := h
 clear h
 replace H := bsi_ H
 obtain ⟨t109, E8, H⟩ := H
 try dsimp only at H
 have A3 := am_ E8
 clear E8
 by_cases c4 : t109 < 0
 ·rw [if_pos c4] at H
  have gB := decide_eq_true c4; clear c4; obtain rfl := Option.some.inj H
  go_enter Tryz.func45, Tryz.ntmps45
  go_wp2_with (first | ((with_reducible refine gate_dst (N := 2) rfl ?_); refine bx_ 2 #[.int .i64 aD, .slice zH iT.length zL] 57 ?_; intro c3F hg w5 hbox hb; have XN := am_ (hbox); have c3V := gw_ hg; have bVI := gw_ hg; replace HB := bs_ hb; clear hb hbox hg; obtain ⟨jR, jT, jU, jS⟩ := b2_ XN) | ((with_reducible refine gate_callee (f := 66) rfl ?_); refine gsL_ (some 8) Tryz.func66 #[.slice zH iT.length zL, .int .i64 a1] ?_; (with_reducible refine (laws_szCountedS.calls k _ _ iT a1 t109 _ ?aK ?aT A3.out).mono ?_); (case aK => exact ck_ (Kd.C_below X8.out HB.out)); (case aT => exact Y3.out); rintro e w7 ⟨rfl, hb⟩; refine ⟨_, rfl, ?_⟩; replace XN := bkb_ XN hb; replace HB := bs_ hb; (try clear hb)))
  go_ret
  exact ⟨er_, bb_⟩
 ·rw [if_neg c4] at H
  have gB := decide_eq_false c4; clear c4; obtain rfl := Option.some.inj H
  go_enter Tryz.func45, Tryz.ntmps45
  go_wp2_with (first | ((with_reducible refine gate_dst (N := 2) rfl ?_); refine bx_ 2 #[.int .i64 aD, .slice zH iT.length zL] 57 ?_; intro c3F hg w8 hbox hb; have XN := am_ (hbox); have c3V := gw_ hg; have bVI := gw_ hg; replace HB := bs_ hb; clear hb hbox hg; obtain ⟨nW, nV, nR, oL⟩ := b2_ XN) | ((with_reducible refine gate_callee (f := 66) rfl ?_); refine gsL_ (some 8) Tryz.func66 #[.slice zH iT.length zL, .int .i64 a1] ?_; (with_reducible refine (laws_szCountedS.calls k _ _ iT a1 t109 _ ?aK ?aT A3.out).mono ?_); (case aK => exact ck_ (Kd.C_below X8.out HB.out)); (case aT => exact Y3.out); rintro e w10 ⟨rfl, hb⟩; refine ⟨_, rfl, ?_⟩; replace XN := bkb_ XN hb; replace HB := bs_ hb; (try clear hb)))
  go_ret
  exact ⟨er_, bb_⟩

/-! ### laws_szRel: function 18 -/
def laws_szRel.f (k : Nat) (aD : ByteArray) (aI : Int) (iF : List (S136)) (a1 : Int) : Option (Int) := if (wrap64 (a1 - (aD.size : Int))) < 0 then (some (-1)) else ((laws_szBag.f k aI iF (wrap64 (a1 - (aD.size : Int)))).bind fun a99 => (if a99 < 0 then (some (-1)) else (some a99)))
set_option maxHeartbeats 8000000 in
theorem laws_szRel.calls (k : Nat) (aD : ByteArray) (aI : Int) (yN : Option Addr) (yK : Nat) (iF : List (S136)) (a1 : Int) (r : Int) (w : World) (UF : Kd.C k136 w yN iF.length iF) (UQ : iF.length ≤ yK) (h : laws_szRel.f k aD aI iF a1 = some r) :
  Calls Tryz.prog 18 #[.agg #[.string aD, .int .i64 aI, .slice yN iF.length yK], .int .i64 a1] w fun e w' => e = .returned (.int .i64 r) ∧ Below w.heap.size w w' := by
 have bDT := Tryz.underlying59
 have b9I := Tryz.underlying57
 have WS := am_ UF
 have YZ := am_ UQ
 clear UF UQ
 have HB := am_ (Below.refl w.heap.size w)
 have H : (if (wrap64 (a1 - (aD.size : Int))) < 0 then (some (-1)) else ((laws_szBag.f k aI iF (wrap64 (a1 - (aD.size : Int)))).bind fun a99 => (if a99 < 0 then (some (-1)) else (some a99)))) = some r := h
 clear h
 by_cases c3 : (wrap64 (a1 - (aD.size : Int))) < 0
 ·rw [if_pos c3] at H
  have fB := decide_eq_true c3; clear c3; obtain rfl := Option.some.inj H
  go_enter Tryz.func18, Tryz.ntmps18
  go_wp2_with (first | ((with_reducible refine gate_dst (N := 2) rfl ?_); refine bx_ 2 #[.string aD, .int .i64 aI, .slice yN iF.length yK] 59 ?_; intro b5R hg w4 hbox hb; have PK := am_ (hbox); have b7O := gw_ hg; have b83 := gw_ hg; replace HB := bs_ hb; clear hb hbox hg; obtain ⟨TI, U2, TY, TT, TV, U1⟩ := b3_ PK))
  go_ret
  exact ⟨er_, bb_⟩
 ·rw [if_neg c3] at H
  have fB := decide_eq_false c3; clear c3; replace H := bsi_ H; obtain ⟨a99, A60, H⟩ := H
  try dsimp only at H
  have A6 := am_ A60; clear A60
  by_cases c7 : a99 < 0
  ·rw [if_pos c7] at H
   have gJ := decide_eq_true c7; clear c7; obtain rfl := Option.some.inj H
   go_enter Tryz.func18, Tryz.ntmps18
   go_wp2_with (first | ((with_reducible refine gate_dst (N := 2) rfl ?_); refine bx_ 2 #[.string aD, .int .i64 aI, .slice yN iF.length yK] 59 ?_; intro b5R hg w8 hbox hb; have PK := am_ (hbox); have b7O := gw_ hg; have b83 := gw_ hg; replace HB := bs_ hb; clear hb hbox hg; obtain ⟨nW, nV, yM, nR, oL, yL⟩ := b3_ PK) | ((with_reducible refine gate_callee (f := 45) rfl ?_); refine gsL_ (some 15) Tryz.func45 #[.agg #[.int .i64 aI, .slice yN iF.length yK], .int .i64 (wrap64 (a1 - (aD.size : Int)))] ?_; (with_reducible refine (laws_szBag.calls k aI _ _ iF (wrap64 (a1 - (aD.size : Int))) a99 _ ?aK ?aT A6.out).mono ?_); (case aK => exact ck_ (Kd.C_below WS.out HB.out)); (case aT => exact YZ.out); rintro e w10 ⟨rfl, hb⟩; refine ⟨_, rfl, ?_⟩; replace PK := bkb_ PK hb; replace HB := bs_ hb; (try clear hb)))
   go_ret
   exact ⟨er_, bb_⟩
  ·rw [if_neg c7] at H
   have gJ := decide_eq_false c7; clear c7; obtain rfl := Option.some.inj H
   go_enter Tryz.func18, Tryz.ntmps18
   go_wp2_with (first | ((with_reducible refine gate_dst (N := 2) rfl ?_); refine bx_ 2 #[.string aD, .int .i64 aI, .slice yN iF.length yK] 59 ?_; intro b5R hg iC hbox hb; have PK := am_ (hbox); have b7O := gw_ hg; have b83 := gw_ hg; replace HB := bs_ hb; clear hb hbox hg; obtain ⟨oW, nT, sV, pG, oM, uD⟩ := b3_ PK) | ((with_reducible refine gate_callee (f := 45) rfl ?_); refine gsL_ (some 15) Tryz.func45 #[.agg #[.int .i64 aI, .slice yN iF.length yK], .int .i64 (wrap64 (a1 - (aD.size : Int)))] ?_; (with_reducible refine (laws_szBag.calls k aI _ _ iF (wrap64 (a1 - (aD.size : Int))) a99 _ ?aK ?aT A6.out).mono ?_); (case aK => exact ck_ (Kd.C_below WS.out HB.out)); (case aT => exact YZ.out); rintro e w13 ⟨rfl, hb⟩; refine ⟨_, rfl, ?_⟩; replace PK := bkb_ PK hb; replace HB := bs_ hb; (try clear hb)))
   go_ret
   exact ⟨er_, bb_⟩

/-! ### laws_szRelS: function 5 -/
def laws_szRelS.l0 : Nat → List (S59) → Int → Int → Option (Int)
 | 0, _, _, _ => none
 | k + 1, x0, x1, x5 => if x5 < (x0.length : Int) then (if 0 ≤ x5 then ((laws_szRel.f k ((fO x0 x5).f0) ((fO x0 x5).f1.f0) ((fO x0 x5).f1.f1) x1).bind fun aEZ => (if aEZ < 0 then (some (-1)) else (laws_szRelS.l0 k x0 aEZ (wrap64 (x5 + 1))))) else (none)) else (some x1)
def laws_szRelS.f (k : Nat) (l0 : List (S59)) (a1 : Int) : Option (Int) := if (wrap64 (a1 - (l0.length : Int))) < 0 then (some (-1)) else (laws_szRelS.l0 k l0 (wrap64 (a1 - (l0.length : Int))) 0)
set_option maxHeartbeats 8000000 in
theorem laws_szRelS.calls (k : Nat) (A0 : Option Addr) (c0 : Nat) (l0 : List (S59)) (a1 : Int) (r : Int) (w : World) (hr0 : Kd.C k59 w A0 l0.length l0) (hc0 : l0.length ≤ c0) (h : laws_szRelS.f k l0 a1 = some r) :
  Calls Tryz.prog 5 #[.slice A0 l0.length c0, .int .i64 a1] w fun e w' => e = .returned (.int .i64 r) ∧ Below w.heap.size w w' := by
 have bDT := Tryz.underlying59
 have jE := am_ hr0
 have wH := am_ hc0
 clear hr0 hc0
 have HB := am_ (Below.refl w.heap.size w)
 have H : (if (wrap64 (a1 - (l0.length : Int))) < 0 then (some (-1)) else (laws_szRelS.l0 k l0 (wrap64 (a1 - (l0.length : Int))) 0)) = some r := h
 clear h
 by_cases c3 : (wrap64 (a1 - (l0.length : Int))) < 0
 ·rw [if_pos c3] at H
  have fB := decide_eq_true c3; clear c3; obtain rfl := Option.some.inj H
  go_enter Tryz.func5, Tryz.ntmps5
  go_wp2
  go_ret
  exact ⟨er_, bb_⟩
 ·rw [if_neg c3] at H
  have fB := decide_eq_false c3; clear c3; have H' := am_ H; clear H
  go_enter Tryz.func5, Tryz.ntmps5
  go_wp2
  go_loopg [1, 5] k (fun kq v1 v5 w' => ∃ (jI : Int) (aC : Int), v1 = .int .i64 jI ∧ v5 = .int .i64 aC ∧ Aside0 (laws_szRelS.l0 kq l0 jI aC = some r) ∧ Aside0 (kq ≤ k) ∧ Aside0 (Below w.heap.size w w'))
  case atStart => exact ⟨(wrap64 (a1 - (l0.length : Int))), (0), rs_, rs_, H', ⟨Nat.le_refl _⟩, ⟨bb_⟩⟩
  case round =>
   clear H'; (try clear p2); (try clear c3); (try clear fB); obtain ⟨jI, aC, rfl, rfl, HA, kY, HB⟩ := hrel
   cases gk with
   | zero => exact absurd HA.out (by simp [laws_szRelS.l0])
   | succ k1 =>
    have H := HA.out; clear HA; simp only [laws_szRelS.l0] at H
    by_cases c4 : aC < (l0.length : Int)
    ·rw [if_pos c4] at H
     have gB := decide_eq_true c4; clear c4
     by_cases c5 : 0 ≤ aC
     ·rw [if_pos c5] at H
      have pV := decide_eq_true c5; clear c5; replace H := bsi_ H; obtain ⟨aEZ, A60, H⟩ := H
      try dsimp only at H
      have A6 := am_ A60; clear A60
      by_cases c7 : aEZ < 0
      ·rw [if_pos c7] at H
       have gJ := decide_eq_true c7; clear c7; obtain rfl := Option.some.inj H; (have aEO : 0 ≤ (aC : Int) := oa_); (have aE2 : aC < (l0.length : Int) := oa_); obtain ⟨bSP, aF0, aDN, bDS, MJ, KZ, JU, K9, K8⟩ := aE3 jE.out aC aEO aE2; cases bDS; replace MJ := hb_ HB MJ; replace KZ := hb_ HB KZ; replace JU := hb_ HB JU; have a6X := am_ K8; have a3R := am_ K9; clear K8 K9; replace aEO := eq_true aEO; replace aE2 := eq_true aE2
       go_wp2_with (first | ((with_reducible refine gate_callee (f := 18) rfl ?_); refine gsL_ (some 23) Tryz.func18 #[.agg #[.string ((fO l0 aC).f0), .int .i64 ((fO l0 aC).f1.f0), .slice aF0 ((fO l0 aC).f1.f1).length aDN], .int .i64 jI] ?_; (with_reducible refine (laws_szRel.calls k1 ((fO l0 aC).f0) ((fO l0 aC).f1.f0) _ _ ((fO l0 aC).f1.f1) jI aEZ _ ?aK ?aT A6.out).mono ?_); (case aK => exact ck_ (Kd.C_below a6X.out HB.out)); (case aT => exact a3R.out); rintro e w8 ⟨rfl, hb⟩; refine ⟨_, rfl, ?_⟩; replace HB := bs_ hb; (try clear hb)))
       go_ret
       exact ⟨er_, bb_⟩
      ·rw [if_neg c7] at H
       have gJ := decide_eq_false c7; clear c7; have H' := am_ H; clear H; (have aEO : 0 ≤ (aC : Int) := oa_); (have aE2 : aC < (l0.length : Int) := oa_); obtain ⟨bSP, aF0, aDN, bDS, MJ, KZ, JU, K9, K8⟩ := aE3 jE.out aC aEO aE2; cases bDS; replace MJ := hb_ HB MJ; replace KZ := hb_ HB KZ; replace JU := hb_ HB JU; have a6X := am_ K8; have a3R := am_ K9; clear K8 K9; replace aEO := eq_true aEO; replace aE2 := eq_true aE2
       go_wp2_with (first | ((with_reducible refine gate_callee (f := 18) rfl ?_); refine gsL_ (some 23) Tryz.func18 #[.agg #[.string ((fO l0 aC).f0), .int .i64 ((fO l0 aC).f1.f0), .slice aF0 ((fO l0 aC).f1.f1).length aDN], .int .i64 jI] ?_; (with_reducible refine (laws_szRel.calls k1 ((fO l0 aC).f0) ((fO l0 aC).f1.f0) _ _ ((fO l0 aC).f1.f1) jI aEZ _ ?aK ?aT A6.out).mono ?_); (case aK => exact ck_ (Kd.C_below a6X.out HB.out)); (case aT => exact a3R.out); rintro e w9 ⟨rfl, hb⟩; refine ⟨_, rfl, ?_⟩; replace HB := bs_ hb; (try clear hb)))
       go_roundg k1
       case measure => have := kY.out; omega
       case rel => exact ⟨(aEZ), (wrap64 (aC + 1)), rs_, rs_, H', ⟨by have := kY.out; omega⟩, ⟨bb_⟩⟩
     ·rw [if_neg c5] at H
      exact nn_ H
    ·rw [if_neg c4] at H
     have gB := decide_eq_false c4; clear c4; obtain rfl := Option.some.inj H
     go_wp2
     go_ret
     exact ⟨er_, bb_⟩

/-! ### laws_szExpS: function 20 -/
def laws_szExpS.l0 (E_ : Int → Int → Int → Int → ByteArray → ByteArray → (List (S27)) → Int → Option (Int)) : Nat → List (S27) → Int → Int → Option (Int)
 | 0, _, _, _ => none
 | k + 1, x0, x1, x5 => if x5 < (x0.length : Int) then (if 0 ≤ x5 then ((E_ ((dH x0 x5).f0) ((dH x0 x5).f1) ((dH x0 x5).f2.f0) ((dH x0 x5).f2.f1) ((dH x0 x5).f2.f2) ((dH x0 x5).f3) ((dH x0 x5).f4) x1).bind fun aEC => (if aEC < 0 then (some (-1)) else (laws_szExpS.l0 E_ k x0 aEC (wrap64 (x5 + 1))))) else (none)) else (some x1)
def laws_szExpS.f (E_ : Int → Int → Int → Int → ByteArray → ByteArray → (List (S27)) → Int → Option (Int)) (k : Nat) (l0 : List (S27)) (a1 : Int) : Option (Int) := if (wrap64 (a1 - (l0.length : Int))) < 0 then (some (-1)) else (laws_szExpS.l0 E_ k l0 (wrap64 (a1 - (l0.length : Int))) 0)
set_option maxHeartbeats 8000000 in
theorem laws_szExpS.calls (E_ : Int → Int → Int → Int → ByteArray → ByteArray → (List (S27)) → Int → Option (Int)) (EP : ∀ (aD : Int) (aI : Int) (aJ : Int) (aM : Int) (aN : ByteArray) (aQ : ByteArray) (dL : Option Addr) (dJ : Nat) (aV : List (S27)) (a1 : Int) (r : Int) (w : World) (eX : Kd.C k27 w dL aV.length aV) (eU : aV.length ≤ dJ) (h : E_ aD aI aJ aM aN aQ aV a1 = some r), Calls Tryz.prog 19 #[.agg #[.int .i64 aD, .int .i64 aI, .int .i64 aJ, .int .i64 aM, .string aN, .string aQ, .slice dL aV.length dJ], .int .i64 a1] w fun e w' => e = .returned (.int .i64 r) ∧ Below w.heap.size w w') (k : Nat) (A0 : Option Addr) (c0 : Nat) (l0 : List (S27)) (a1 : Int) (r : Int) (w : World) (hr0 : Kd.C k27 w A0 l0.length l0) (hc0 : l0.length ≤ c0) (h : laws_szExpS.f E_ k l0 a1 = some r) :
  Calls Tryz.prog 20 #[.slice A0 l0.length c0, .int .i64 a1] w fun e w' => e = .returned (.int .i64 r) ∧ Below w.heap.size w w' := by
 have aVZ := Tryz.underlying27
 have jE := am_ hr0
 have wH := am_ hc0
 clear hr0 hc0
 have HB := am_ (Below.refl w.heap.size w)
 have H : (if (wrap64 (a1 - (l0.length : Int))) < 0 then (some (-1)) else (laws_szExpS.l0 E_ k l0 (wrap64 (a1 - (l0.length : Int))) 0)) = some r := h
 clear h
 by_cases c3 : (wrap64 (a1 - (l0.length : Int))) < 0
 ·rw [if_pos c3] at H
  have fB := decide_eq_true c3; clear c3; obtain rfl := Option.some.inj H
  go_enter Tryz.func20, Tryz.ntmps20
  go_wp2
  go_ret
  exact ⟨er_, bb_⟩
 ·rw [if_neg c3] at H
  have fB := decide_eq_false c3; clear c3; have H' := am_ H; clear H
  go_enter Tryz.func20, Tryz.ntmps20
  go_wp2
  go_loopg [1, 5] k (fun kq v1 v5 w' => ∃ (jI : Int) (aC : Int), v1 = .int .i64 jI ∧ v5 = .int .i64 aC ∧ Aside0 (laws_szExpS.l0 E_ kq l0 jI aC = some r) ∧ Aside0 (kq ≤ k) ∧ Aside0 (Below w.heap.size w w'))
  case atStart => exact ⟨(wrap64 (a1 - (l0.length : Int))), (0), rs_, rs_, H', ⟨Nat.le_refl _⟩, ⟨bb_⟩⟩
  case round =>
   clear H'; (try clear c2); (try clear p2); (try clear c3); (try clear fB); obtain ⟨jI, aC, rfl, rfl, HA, kY, HB⟩ := hrel
   cases gk with
   | zero => exact absurd HA.out (by simp [laws_szExpS.l0])
   | succ k1 =>
    have H := HA.out; clear HA; simp only [laws_szExpS.l0] at H
    by_cases c4 : aC < (l0.length : Int)
    ·rw [if_pos c4] at H
     have gB := decide_eq_true c4; clear c4
     by_cases c5 : 0 ≤ aC
     ·rw [if_pos c5] at H
      have pV := decide_eq_true c5; clear c5; replace H := bsi_ H; obtain ⟨aEC, A60, H⟩ := H
      try dsimp only at H
      have A6 := am_ A60; clear A60
      by_cases c7 : aEC < 0
      ·rw [if_pos c7] at H
       have gJ := decide_eq_true c7; clear c7; obtain rfl := Option.some.inj H; (have aFL : 0 ≤ (aC : Int) := oa_); (have aG6 : aC < (l0.length : Int) := oa_); obtain ⟨c09, aF4, aFF, bDX, NW, MG, NU, QW, RQ, RD, QE, LA, OJ⟩ := aDJ jE.out aC aFL aG6; cases bDX; replace NW := hb_ HB NW; replace MG := hb_ HB MG; replace NU := hb_ HB NU; replace QW := hb_ HB QW; replace RQ := hb_ HB RQ; replace RD := hb_ HB RD; replace QE := hb_ HB QE; have a5F := am_ OJ; have a8T := am_ LA; clear OJ LA; replace aFL := eq_true aFL; replace aG6 := eq_true aG6
       go_wp2_with (first | ((with_reducible refine gate_callee (f := 19) rfl ?_); refine gsL_ (some 23) Tryz.func19 #[.agg #[.int .i64 ((dH l0 aC).f0), .int .i64 ((dH l0 aC).f1), .int .i64 ((dH l0 aC).f2.f0), .int .i64 ((dH l0 aC).f2.f1), .string ((dH l0 aC).f2.f2), .string ((dH l0 aC).f3), .slice aF4 ((dH l0 aC).f4).length aFF], .int .i64 jI] ?_; (with_reducible refine (EP ((dH l0 aC).f0) ((dH l0 aC).f1) ((dH l0 aC).f2.f0) ((dH l0 aC).f2.f1) ((dH l0 aC).f2.f2) ((dH l0 aC).f3) _ _ ((dH l0 aC).f4) jI aEC _ ?aK ?aT A6.out).mono ?_); (case aK => exact ck_ (Kd.C_below a5F.out HB.out)); (case aT => exact a8T.out); rintro e w8 ⟨rfl, hb⟩; refine ⟨_, rfl, ?_⟩; replace HB := bs_ hb; (try clear hb)))
       go_ret
       exact ⟨er_, bb_⟩
      ·rw [if_neg c7] at H
       have gJ := decide_eq_false c7; clear c7; have H' := am_ H; clear H; (have aFL : 0 ≤ (aC : Int) := oa_); (have aG6 : aC < (l0.length : Int) := oa_); obtain ⟨c09, aF4, aFF, bDX, NW, MG, NU, QW, RQ, RD, QE, LA, OJ⟩ := aDJ jE.out aC aFL aG6; cases bDX; replace NW := hb_ HB NW; replace MG := hb_ HB MG; replace NU := hb_ HB NU; replace QW := hb_ HB QW; replace RQ := hb_ HB RQ; replace RD := hb_ HB RD; replace QE := hb_ HB QE; have a5F := am_ OJ; have a8T := am_ LA; clear OJ LA; replace aFL := eq_true aFL; replace aG6 := eq_true aG6
       go_wp2_with (first | ((with_reducible refine gate_callee (f := 19) rfl ?_); refine gsL_ (some 23) Tryz.func19 #[.agg #[.int .i64 ((dH l0 aC).f0), .int .i64 ((dH l0 aC).f1), .int .i64 ((dH l0 aC).f2.f0), .int .i64 ((dH l0 aC).f2.f1), .string ((dH l0 aC).f2.f2), .string ((dH l0 aC).f3), .slice aF4 ((dH l0 aC).f4).length aFF], .int .i64 jI] ?_; (with_reducible refine (EP ((dH l0 aC).f0) ((dH l0 aC).f1) ((dH l0 aC).f2.f0) ((dH l0 aC).f2.f1) ((dH l0 aC).f2.f2) ((dH l0 aC).f3) _ _ ((dH l0 aC).f4) jI aEC _ ?aK ?aT A6.out).mono ?_); (case aK => exact ck_ (Kd.C_below a5F.out HB.out)); (case aT => exact a8T.out); rintro e w9 ⟨rfl, hb⟩; refine ⟨_, rfl, ?_⟩; replace HB := bs_ hb; (try clear hb)))
       go_roundg k1
       case measure => have := kY.out; omega
       case rel => exact ⟨(aEC), (wrap64 (aC + 1)), rs_, rs_, H', ⟨by have := kY.out; omega⟩, ⟨bb_⟩⟩
     ·rw [if_neg c5] at H
      exact nn_ H
    ·rw [if_neg c4] at H
     have gB := decide_eq_false c4; clear c4; obtain rfl := Option.some.inj H
     go_wp2
     go_ret
     exact ⟨er_, bb_⟩

/-! ### laws_szExp: function 19 -/
def laws_szExp.f : Nat → Int → Int → Int → Int → ByteArray → ByteArray → (List (S27)) → Int → Option (Int)
 | 0, _, _, _, _, _, _, _, _ => none
 | k + 1, aD, aI, aJ, aM, aN, aQ, aV, a1 => (laws_szValue.f aJ aM aN a1).bind fun t117 => (if t117 < 0 then (some (-1)) else (if (wrap64 (t117 - (aQ.size : Int))) < 0 then (some (-1)) else ((laws_szExpS.f (laws_szExp.f k) k aV (wrap64 (t117 - (aQ.size : Int)))).bind fun a4K => (if a4K < 0 then (some (-1)) else (some a4K)))))
set_option maxHeartbeats 8000000 in
theorem laws_szExp.calls : ∀ (k : Nat) (aD : Int) (aI : Int) (aJ : Int) (aM : Int) (aN : ByteArray) (aQ : ByteArray) (dL : Option Addr) (dJ : Nat) (aV : List (S27)) (a1 : Int) (r : Int) (w : World) (eX : Kd.C k27 w dL aV.length aV) (eU : aV.length ≤ dJ) (h : laws_szExp.f k aD aI aJ aM aN aQ aV a1 = some r),
  Calls Tryz.prog 19 #[.agg #[.int .i64 aD, .int .i64 aI, .int .i64 aJ, .int .i64 aM, .string aN, .string aQ, .slice dL aV.length dJ], .int .i64 a1] w fun e w' => e = .returned (.int .i64 r) ∧ Below w.heap.size w w' := by
 intro k
 induction k with
 | zero =>
  intro aD aI aJ aM aN aQ dL dJ aV a1 r w eX eU h; exact absurd h (by simp [laws_szExp.f])
 | succ k ih_ =>
  intro aD aI aJ aM aN aQ dL dJ aV a1 r w eX eU h; have aVZ := Tryz.underlying27; have aTU := Tryz.underlying24; have gD := am_ eX; have gW := am_ eU; clear eX eU; have HB := am_ (Below.refl w.heap.size w); (have H : ((laws_szValue.f aJ aM aN a1).bind fun t117 => (if t117 < 0 then (some (-1)) else (if (wrap64 (t117 - (aQ.size : Int))) < 0 then (some (-1)) else ((laws_szExpS.f (laws_szExp.f k) k aV (wrap64 (t117 - (aQ.size : Int)))).bind fun a4K => (if a4K < 0 then (some (-1)) else (some a4K)))))) = some r := h); clear h; replace H := bsi_ H; obtain ⟨t117, E8, H⟩ := H
  try dsimp only at H
  have A3 := am_ E8; clear E8
  by_cases c4 : t117 < 0
  ·rw [if_pos c4] at H
   have gB := decide_eq_true c4; clear c4; obtain rfl := Option.some.inj H
   go_enter Tryz.func19, Tryz.ntmps19
   go_wp2_with (first | ((with_reducible refine gate_dst (N := 2) rfl ?_); refine bx_ 2 #[.int .i64 aD, .int .i64 aI, .int .i64 aJ, .int .i64 aM, .string aN, .string aQ, .slice dL aV.length dJ] 27 ?_; intro aUL hg w5 hbox hb; have lI := am_ (hbox); have aVS := gw_ hg; have aU9 := gw_ hg; replace HB := bs_ hb; clear hb hbox hg; obtain ⟨jR, jT, lK, lT, lM, lU, lS, jU, jS, lW, lQ, lX, lL, lV⟩ := b7_ lI) | ((with_reducible refine gate_callee (f := 46) rfl ?_); refine gsL_ (some 8) Tryz.func46 #[.agg #[.int .i64 aJ, .int .i64 aM, .string aN], .int .i64 a1] ?_; (with_reducible refine (laws_szValue.calls aJ aM aN a1 t117 _ A3.out).mono ?_); rintro e w7 ⟨rfl, hb⟩; refine ⟨_, rfl, ?_⟩; replace lI := bkb_ lI hb; replace HB := bs_ hb; (try clear hb)))
   go_ret
   exact ⟨er_, bb_⟩
  ·rw [if_neg c4] at H
   have gB := decide_eq_false c4; clear c4
   by_cases c8 : (wrap64 (t117 - (aQ.size : Int))) < 0
   ·rw [if_pos c8] at H
    have LG := decide_eq_true c8; clear c8; obtain rfl := Option.some.inj H
    go_enter Tryz.func19, Tryz.ntmps19
    go_wp2_with (first | ((with_reducible refine gate_dst (N := 2) rfl ?_); refine bx_ 2 #[.int .i64 aD, .int .i64 aI, .int .i64 aJ, .int .i64 aM, .string aN, .string aQ, .slice dL aV.length dJ] 27 ?_; intro aUL hg w9 hbox hb; have lI := am_ (hbox); have aVS := gw_ hg; have aU9 := gw_ hg; replace HB := bs_ hb; clear hb hbox hg; obtain ⟨iM, iE, jW, wR, wW, xJ, xA, iJ, iN, kF, y5, wX, xG, xE⟩ := b7_ lI) | ((with_reducible refine gate_callee (f := 46) rfl ?_); refine gsL_ (some 8) Tryz.func46 #[.agg #[.int .i64 aJ, .int .i64 aM, .string aN], .int .i64 a1] ?_; (with_reducible refine (laws_szValue.calls aJ aM aN a1 t117 _ A3.out).mono ?_); rintro e iC ⟨rfl, hb⟩; refine ⟨_, rfl, ?_⟩; replace lI := bkb_ lI hb; replace HB := bs_ hb; (try clear hb); obtain ⟨oW, nT, sV, CQ, AO, zO, zX, pG, oM, uD, CS, BP, CY, BB⟩ := b7_ lI))
    go_ret
    exact ⟨er_, bb_⟩
   ·rw [if_neg c8] at H
    have LG := decide_eq_false c8; clear c8; replace H := bsi_ H; obtain ⟨a4K, aPU, H⟩ := H
    try dsimp only at H
    have A13 := am_ aPU; clear aPU
    by_cases c14 : a4K < 0
    ·rw [if_pos c14] at H
     have X5 := decide_eq_true c14; clear c14; obtain rfl := Option.some.inj H
     go_enter Tryz.func19, Tryz.ntmps19
     go_wp2_with (first | ((with_reducible refine gate_dst (N := 2) rfl ?_); refine bx_ 2 #[.int .i64 aD, .int .i64 aI, .int .i64 aJ, .int .i64 aM, .string aN, .string aQ, .slice dL aV.length dJ] 27 ?_; intro aUL hg w15 hbox hb; have lI := am_ (hbox); have aVS := gw_ hg; have aU9 := gw_ hg; replace HB := bs_ hb; clear hb hbox hg; obtain ⟨mO, mY, oV, qU, qQ, qR, qN, mQ, mG, nX, qK, qG, qJ, qM⟩ := b7_ lI) | ((with_reducible refine gate_callee (f := 46) rfl ?_); refine gsL_ (some 8) Tryz.func46 #[.agg #[.int .i64 aJ, .int .i64 aM, .string aN], .int .i64 a1] ?_; (with_reducible refine (laws_szValue.calls aJ aM aN a1 t117 _ A3.out).mono ?_); rintro e w17 ⟨rfl, hb⟩; refine ⟨_, rfl, ?_⟩; replace lI := bkb_ lI hb; replace HB := bs_ hb; (try clear hb); obtain ⟨rQ, sU, wL, zU, BF, AQ, CJ, sD, sG, xQ, BQ, zY, CO, D6⟩ := b7_ lI) | ((with_reducible refine gate_callee (f := 20) rfl ?_); refine gsL_ (some 21) Tryz.func20 #[.slice dL aV.length dJ, .int .i64 (wrap64 (t117 - (aQ.size : Int)))] ?_; (with_reducible refine (laws_szExpS.calls (laws_szExp.f k) ih_ k _ _ aV (wrap64 (t117 - (aQ.size : Int))) a4K _ ?aK ?aT A13.out).mono ?_); (case aK => exact ck_ (Kd.C_below gD.out HB.out)); (case aT => exact gW.out); rintro e w19 ⟨rfl, hb⟩; refine ⟨_, rfl, ?_⟩; replace lI := bkb_ lI hb; replace HB := bs_ hb; (try clear hb)))
     go_ret
     exact ⟨er_, bb_⟩
    ·rw [if_neg c14] at H
     have X5 := decide_eq_false c14; clear c14; obtain rfl := Option.some.inj H
     go_enter Tryz.func19, Tryz.ntmps19
     go_wp2_with (first | ((with_reducible refine gate_dst (N := 2) rfl ?_); refine bx_ 2 #[.int .i64 aD, .int .i64 aI, .int .i64 aJ, .int .i64 aM, .string aN, .string aQ, .slice dL aV.length dJ] 27 ?_; intro aUL hg w20 hbox hb; have lI := am_ (hbox); have aVS := gw_ hg; have aU9 := gw_ hg; replace HB := bs_ hb; clear hb hbox hg; obtain ⟨xW, xY, IE, a2F, a7L, a6D, a8Y, wS, xV, IU, a8M, a88, a7J, a6L⟩ := b7_ lI) | ((with_reducible refine gate_callee (f := 46) rfl ?_); refine gsL_ (some 8) Tryz.func46 #[.agg #[.int .i64 aJ, .int .i64 aM, .string aN], .int .i64 a1] ?_; (with_reducible refine (laws_szValue.calls aJ aM aN a1 t117 _ A3.out).mono ?_); rintro e w22 ⟨rfl, hb⟩; refine ⟨_, rfl, ?_⟩; replace lI := bkb_ lI hb; replace HB := bs_ hb; (try clear hb); obtain ⟨lC, kV, kX, oZ, pK, pF, oI, l7, kZ, kW, oU, o9, o7, pI⟩ := b7_ lI) | ((with_reducible refine gate_callee (f := 20) rfl ?_); refine gsL_ (some 21) Tryz.func20 #[.slice dL aV.length dJ, .int .i64 (wrap64 (t117 - (aQ.size : Int)))] ?_; (with_reducible refine (laws_szExpS.calls (laws_szExp.f k) ih_ k _ _ aV (wrap64 (t117 - (aQ.size : Int))) a4K _ ?aK ?aT A13.out).mono ?_); (case aK => exact ck_ (Kd.C_below gD.out HB.out)); (case aT => exact gW.out); rintro e w24 ⟨rfl, hb⟩; refine ⟨_, rfl, ?_⟩; replace lI := bkb_ lI hb; replace HB := bs_ hb; (try clear hb)))
     go_ret
     exact ⟨er_, bb_⟩

end Go.Proofs.YtnobhkmpkichdaaGreat.PFnExactWidth
