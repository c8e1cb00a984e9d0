-- WRITTEN BY xprint.py, a program of this session over the kit's printer: by nobody's hand
-- PRESSED4 -- PRESSED TWICE3 -- PRESSED TWICE
import Derived.Test.YtnobhkmpkichdaaGreatPress
import Derived.Test.YtnobhkmpkichdaaGreatPress3
import Derived.Test.YtnobhkmpkichdaaGreatPFnExactWidthx0
import Derived.Test.YtnobhkmpkichdaaGreatPFnExactWidthx1
import Derived.Test.YtnobhkmpkichdaaGreatPFnExactWidthx3
import Derived.Test.YtnobhkmpkichdaaGreatPFnExactWidthx6
namespace Go.Proofs.YtnobhkmpkichdaaGreat.PFnExactWidth
open Go.RowKit Go.Proofs.YtnobhkmpkichdaaGreatW.PrintWords Go.Proofs.YtnobhkmpkichdaaGreatW.PrintLast Go.Proofs.YtnobhkmpkichdaaGreatW.PrintMore
attribute [local go_sem] max2_int min2_int max_two min_two max_three min_three max_four min_four
set_option linter.unusedVariables false
set_option linter.unusedSimpArgs false

attribute [local go_sem high] aIF
/-! ### spec_l03Right: function 93 -/
mutual
def spec_l03Right.l0 : Nat → Int → Int → Int → Int → Int → Int → ByteArray → ByteArray → List (S39) → Option (Bool)
 | 0, _, _, _, _, _, _, _, _, _ => none
 | k + 1, x1, x5, uE, zP, AZ, zQ, zZ, tY, iH => if x5 < (iH.length : Int) then (if 0 ≤ x5 then ((spec_l03Right.f k ((rd_T39 iH x5).f0) ((rd_T39 iH x5).f1) ((rd_T39 iH x5).f2.f0) ((rd_T39 iH x5).f2.f1) ((rd_T39 iH x5).f2.f2) ((rd_T39 iH x5).f3) ((rd_T39 iH x5).f4) (wrap64 (x1 - 1))).bind fun bCL => (if bCL = true then (spec_l03Right.l0 k x1 (wrap64 (x5 + 1)) uE zP AZ zQ zZ tY iH) else (some false))) else (none)) else (if zP = 0 then (spec_l03Right.j1 k (AZ == 0 && (zQ == 0 && (zZ.toList == ([] : List UInt8)))) uE zP AZ zQ zZ tY iH) else (spec_l03Right.j1 k false uE zP AZ zQ zZ tY iH))
def spec_l03Right.j1 : Nat → Bool → Int → Int → Int → Int → ByteArray → ByteArray → List (S39) → Option (Bool)
 | 0, _, _, _, _, _, _, _, _ => none
 | k + 1, x6, uE, zP, AZ, zQ, zZ, tY, iH => if uE = 0 then ((spec_l01In.f zP 0 11).bind fun t198 => (if t198 = true then (if (AZ == 0 && (zQ == 0 && (zZ.toList == ([] : List UInt8)))) = true then (if tY.toList = ([] : List UInt8) then (some ((iH.length : Int) == 0)) else (some false)) else (some false)) else (some false))) else (if uE = 1 then ((spec_ValueOk.f AZ zQ zZ).bind fun bAF => (if bAF = true then (if zP = 0 then (if tY.toList = ([] : List UInt8) then (some ((iH.length : Int) == 0)) else (some false)) else (some false)) else (some false))) else (if uE = 2 then (if x6 = true then (if (iH.length : Int) = 2 then ((spec_l03Has.f k (([(⟨#[43]⟩ : ByteArray), (⟨#[45]⟩ : ByteArray), (⟨#[42]⟩ : ByteArray), (⟨#[47]⟩ : ByteArray), (⟨#[61]⟩ : ByteArray), (⟨#[60]⟩ : ByteArray), (⟨#[126]⟩ : ByteArray), (⟨#[97, 110, 100]⟩ : ByteArray), (⟨#[111, 114]⟩ : ByteArray)] : List ByteArray)) tY).bind fun t203 => (some t203)) else (some false)) else (some false)) else (if uE = 3 then (if x6 = true then (if tY.toList = ([] : List UInt8) then (some ((iH.length : Int) == 1)) else (some false)) else (some false)) else (if uE = 4 then (if x6 = true then (if tY.toList = ([] : List UInt8) then (some ((iH.length : Int) == 1)) else (some false)) else (some false)) else (some false)))))
def spec_l03Right.f : Nat → Int → Int → Int → Int → ByteArray → ByteArray → List (S39) → Int → Option (Bool)
 | 0, _, _, _, _, _, _, _, _ => none
 | k + 1, aD, aI, aJ, aM, aN, aQ, aV, a1 => if a1 < 0 then (some false) else (spec_l03Right.l0 k a1 0 aD aI aJ aM aN aQ aV)
end
set_option maxHeartbeats 8000000 in
set_option maxRecDepth 100000 in
theorem spec_l03Right.calls (k : Nat) : ∀ (aD : Int) (aI : Int) (aJ : Int) (aM : Int) (aN : ByteArray) (aQ : ByteArray) (dL : Option Addr) (dJ : Nat) (aV : List (S39)) (a1 : Int) (r : Bool) (w : World) (eX : Kd.C gL w dL aV.length aV) (eU : aV.length ≤ dJ) (h : spec_l03Right.f k aD aI aJ aM aN aQ aV a1 = some r),
  Calls Tryz.prog 93 #[.agg #[.int .i64 aD, .int .i64 aI, .int .i64 aJ, .int .i64 aM, .string aN, .string aQ, .slice dL aV.length dJ], .int .i64 a1] w fun e w' => e = .returned (.bool r) ∧ Below w.heap.size w w' := by
 induction k using Nat.strongRecOn with
 | _ k ih =>
 intro aD aI aJ aM aN aQ dL dJ aV a1 r w eX eU h
 cases k with
 | zero => exact absurd h (by simp [spec_l03Right.f])
 | succ k =>
 simp only [spec_l03Right.f] at h
 have vN := Tryz.underlying39
 have XJ := Tryz.underlying36
 have gD := am_ eX
 have gW := am_ eU
 clear eX eU
 have HB := am_ (Below.refl w.heap.size w)
 have H : (if a1 < 0 then (some false) else (spec_l03Right.l0 k a1 0 aD aI aJ aM aN aQ aV)) = some r := h
 clear h
 by_cases c3 : a1 < 0
 ·rw [if_pos c3] at H
  have fB := decide_eq_true c3; clear c3; obtain rfl := Option.some.inj H
  go_enter Tryz.func93, Tryz.ntmps93
  go_wp2_with (first | ((with_reducible refine gate_dst (N := 2) rfl ?_); (try (refine gate_guard (by rfl) ?_; dsimp only)); refine bx_ 2 #[.int .i64 aD, .int .i64 aI, .int .i64 aJ, .int .i64 aM, .string aN, .string aQ, .slice dL aV.length dJ] 39 ?_; intro aV4 hg w4 hbox hb; have fD := am_ (hbox); have bYG := gw_ hg; have bOL := gw_ hg; replace HB := bs_ hb; clear hb hbox hg))
  go_ret
  exact ⟨er_, bb_⟩
 ·rw [if_neg c3] at H
  have fB := decide_eq_false c3; clear c3; have H' := am_ H; clear H
  go_enter Tryz.func93, Tryz.ntmps93
  go_wp2_with (first | ((with_reducible refine gate_dst (N := 2) rfl ?_); (try (refine gate_guard (by rfl) ?_; dsimp only)); refine bx_ 2 #[.int .i64 aD, .int .i64 aI, .int .i64 aJ, .int .i64 aM, .string aN, .string aQ, .slice dL aV.length dJ] 39 ?_; intro aV4 hg w5 hbox hb; have fD := am_ (hbox); have bYG := gw_ hg; have bOL := gw_ hg; replace HB := bs_ hb; clear hb hbox hg))
  go_loopg [5] k (fun kq v5 w' => ∃ (aC : Int), v5 = .int .i64 aC ∧ Aside0 (spec_l03Right.l0 kq a1 aC aD aI aJ aM aN aQ aV = some r) ∧ Aside0 (kq ≤ k) ∧ Aside0 (w'.heap[aV4]? = some (.cells #[.int .i64 aD, .int .i64 aI, .int .i64 aJ, .int .i64 aM, .string aN, .string aQ, (.slice dL aV.length dJ)] 39 (0, 0))) ∧ Aside0 (Below w.heap.size w w'))
  case atStart => exact ⟨(0), rs_, H', ⟨Nat.le_refl _⟩, ⟨bkx_ fD.out⟩, ⟨bb_⟩⟩
  case round =>
   clear H'; (try clear p2); (try clear c3); (try clear fB); obtain ⟨aC, rfl, HA, kY, fD, HB⟩ := hrel
   cases gk with
   | zero => exact absurd HA.out (by simp [spec_l03Right.l0])
   | succ k1 =>
    have H := HA.out; clear HA; simp only [spec_l03Right.l0] at H
    by_cases c6 : aC < (aV.length : Int)
    ·rw [if_pos c6] at H
     have kN := decide_eq_true c6; clear c6
     by_cases c7 : 0 ≤ aC
     ·rw [if_pos c7] at H
      have gJ := decide_eq_true c7; clear c7; replace H := bsi_ H; obtain ⟨bCL, A80, H⟩ := H
      try dsimp only at H
      have A8 := am_ A80; clear A80
      by_cases c9 : bCL = true
      ·subst c9
       rw [if_pos rfl] at H; have H' := am_ H; clear H; obtain ⟨iM, iE, jW, wR, wW, xJ, xA, iJ, iN, kF, y5, wX, xG, xE⟩ := b7_ fD; (have aBM : 0 ≤ (aC : Int) := oa_); (have aA4 : aC < (aV.length : Int) := oa_); obtain ⟨bVF, aEK, aFW, b9T, GX, I6, IV, IJ, H6, GK, I9, SG, NL⟩ := pE gD.out aC aBM aA4; cases b9T; replace GX := hb_ HB GX; replace I6 := hb_ HB I6; replace IV := hb_ HB IV; replace IJ := hb_ HB IJ; replace H6 := hb_ HB H6; replace GK := hb_ HB GK; replace I9 := hb_ HB I9; have a3S := am_ NL; have a7O := am_ SG; clear NL SG; replace aBM := eq_true aBM; replace aA4 := eq_true aA4
       go_wp2_with (first | ((with_reducible refine gate_callee (f := 93) rfl ?_); refine gsL_ (some 23) Tryz.func93 #[.agg #[.int .i64 ((rd_T39 aV aC).f0), .int .i64 ((rd_T39 aV aC).f1), .int .i64 ((rd_T39 aV aC).f2.f0), .int .i64 ((rd_T39 aV aC).f2.f1), .string ((rd_T39 aV aC).f2.f2), .string ((rd_T39 aV aC).f3), .slice aEK ((rd_T39 aV aC).f4).length aFW], .int .i64 (wrap64 (a1 - 1))] ?_; (with_reducible refine (ih k1 (by have := kY.out; omega) ((rd_T39 aV aC).f0) ((rd_T39 aV aC).f1) ((rd_T39 aV aC).f2.f0) ((rd_T39 aV aC).f2.f1) ((rd_T39 aV aC).f2.f2) ((rd_T39 aV aC).f3) _ _ ((rd_T39 aV aC).f4) (wrap64 (a1 - 1)) true _ ?aK ?aT A8.out).mono ?_); (case aK => exact ck_ (Kd.C_below a3S.out HB.out)); (case aT => exact a7O.out); rintro e iC ⟨rfl, hb⟩; refine ⟨_, rfl, ?_⟩; replace fD := bkb_ fD hb; replace HB := bs_ hb; (try clear hb)))
       go_roundg k1
       case measure => have := kY.out; omega
       case rel => exact ⟨(wrap64 (aC + 1)), rs_, H', ⟨by have := kY.out; omega⟩, ⟨bkx_ fD.out⟩, ⟨bb_⟩⟩
      ·replace c9 := Bool.eq_false_iff.mpr c9
       subst c9; (rw [if_neg (show ¬ (false = true) by decide)] at H); obtain rfl := Option.some.inj H; obtain ⟨oW, nT, sV, CQ, AO, zO, zX, pG, oM, uD, CS, BP, CY, BB⟩ := b7_ fD; (have aBM : 0 ≤ (aC : Int) := oa_); (have aA4 : aC < (aV.length : Int) := oa_); obtain ⟨bVF, aEK, aFW, b9T, GX, I6, IV, IJ, H6, GK, I9, SG, NL⟩ := pE gD.out aC aBM aA4; cases b9T; replace GX := hb_ HB GX; replace I6 := hb_ HB I6; replace IV := hb_ HB IV; replace IJ := hb_ HB IJ; replace H6 := hb_ HB H6; replace GK := hb_ HB GK; replace I9 := hb_ HB I9; have a3S := am_ NL; have a7O := am_ SG; clear NL SG; replace aBM := eq_true aBM; replace aA4 := eq_true aA4
       go_wp2_with (first | ((with_reducible refine gate_callee (f := 93) rfl ?_); refine gsL_ (some 23) Tryz.func93 #[.agg #[.int .i64 ((rd_T39 aV aC).f0), .int .i64 ((rd_T39 aV aC).f1), .int .i64 ((rd_T39 aV aC).f2.f0), .int .i64 ((rd_T39 aV aC).f2.f1), .string ((rd_T39 aV aC).f2.f2), .string ((rd_T39 aV aC).f3), .slice aEK ((rd_T39 aV aC).f4).length aFW], .int .i64 (wrap64 (a1 - 1))] ?_; (with_reducible refine (ih k1 (by have := kY.out; omega) ((rd_T39 aV aC).f0) ((rd_T39 aV aC).f1) ((rd_T39 aV aC).f2.f0) ((rd_T39 aV aC).f2.f1) ((rd_T39 aV aC).f2.f2) ((rd_T39 aV aC).f3) _ _ ((rd_T39 aV aC).f4) (wrap64 (a1 - 1)) false _ ?aK ?aT A8.out).mono ?_); (case aK => exact ck_ (Kd.C_below a3S.out HB.out)); (case aT => exact a7O.out); rintro e w13 ⟨rfl, hb⟩; refine ⟨_, rfl, ?_⟩; replace fD := bkb_ fD hb; replace HB := bs_ hb; (try clear hb)))
       go_ret
       exact ⟨er_, bb_⟩
     ·rw [if_neg c7] at H
      exact nn_ H
    ·rw [if_neg c6] at H
     have kN := decide_eq_false c6; clear c6; have bD5 := am_ H; clear H; obtain ⟨mV, mI, oP, CG, BI, BX, zR, mK, mW, oQ, CW, C8, BS, BZ⟩ := b7_ fD
     go_upto_region 8 with (fail)
     go_cut [6] (fun v6 wc => ∃ (kq : Nat) (a0V : Bool), v6 = .bool a0V ∧ Aside0 (spec_l03Right.j1 kq a0V aD aI aJ aM aN aQ aV = some r) ∧ Aside0 (kq ≤ k1) ∧ Aside0 (wc.heap[aV4]? = some (.cells #[.int .i64 aD, .int .i64 aI, .int .i64 aJ, .int .i64 aM, .string aN, .string aQ, (.slice dL aV.length dJ)] 39 (0, 0))) ∧ Aside0 (Below w.heap.size w wc))
     case first =>
      have H := bD5.out; clear bD5
      by_cases c16 : aI = 0
      ·rw [if_pos c16] at H
       have YX : (aI == 0) = true := beq_iff_eq.mpr c16; have b7U : (aI != 0) = false := bne_eq_false_iff_eq.mpr c16; clear c16; (first | rw [YX] | (simp only [i64_w, i32_w]; rw [YX]) | skip); have H' := am_ H; clear H; obtain ⟨pO, oO, qL, wQ, y8, x9, xK, pM, o6, qH, yB, wT, wO, xU⟩ := b7_ fD
       go_wp2
       go_meet
       case rel => exact ⟨_, ((aJ == 0 && (aM == 0 && (aN.toList == ([] : List UInt8))))), rs_, H', ⟨by have := kY.out; first | omega | exact Nat.le_refl _⟩, ⟨bkx_ fD.out⟩, ⟨bb_⟩⟩
      ·rw [if_neg c16] at H
       have YX : (aI == 0) = false := beq_eq_false_iff_ne.mpr c16; have b7U : (aI != 0) = true := bne_iff_ne.mpr c16; (first | rw [YX] | (simp only [i64_w, i32_w]; rw [YX]) | skip); have H' := am_ H; clear H; obtain ⟨rQ, sU, wL, zU, BF, AQ, CJ, sD, sG, xQ, BQ, zY, CO, D6⟩ := b7_ fD
       go_wp2
       go_meet
       case rel => exact ⟨_, (false), rs_, H', ⟨by have := kY.out; first | omega | exact Nat.le_refl _⟩, ⟨bkx_ fD.out⟩, ⟨bb_⟩⟩
     case rest =>
      clear bD5; (try clear c1); (try clear p1); (try clear q1); (try clear hx1); (try clear p2); (try clear c3); (try clear fB); (try clear c6); (try clear kN); (try clear p6); (try clear c7); (try clear gJ); (try clear c9); (try clear c16); (try clear YX); (try clear b7U); (try clear iM iE jW wR wW xJ xA); (try clear oW nT sV CQ AO zO zX); (try clear mV mI oP CG BI BX zR); (try clear pO oO qL wQ y8 x9 xK); (try clear rQ sU wL zU BF AQ CJ); (try clear iJ iN kF y5 wX xG xE); (try clear pG oM uD CS BP CY BB); (try clear mK mW oQ CW C8 BS BZ); (try clear pM o6 qH yB wT wO xU); (try clear sD sG xQ BQ zY CO D6); (try clear GX); (try clear I6); (try clear IV); (try clear IJ); (try clear H6); (try clear GK); (try clear I9); (try clear aBM); (try clear p2); (try clear aA4); obtain ⟨kq, a0V, rfl, HA, d2O, fD, HB⟩ := hcut
      cases kq with
      | zero => exact absurd HA.out (by simp [spec_l03Right.j1])
      | succ bX4 =>
       have H := HA.out; clear HA; simp only [spec_l03Right.j1] at H
       by_cases c19 : aD = 0
       ·rw [if_pos c19] at H
        have UM : (aD == 0) = true := beq_iff_eq.mpr c19; have a0K : (aD != 0) = false := bne_eq_false_iff_eq.mpr c19; clear c19; replace H := bsi_ H; obtain ⟨t198, aT3, H⟩ := H
        try dsimp only at H
        have DV := am_ aT3; clear aT3
        by_cases c21 : t198 = true
        ·subst c21
         rw [if_pos rfl] at H
         by_cases VF : (aJ == 0 && (aM == 0 && (aN.toList == ([] : List UInt8)))) = true
         ·rw [if_pos VF] at H
          have aCN : (aJ == 0 && (aM == 0 && (aN.toList == ([] : List UInt8)))) = true := VF; (try (have bTD : (aJ == 0 && (aM == 0 && (aN.toList.isEmpty))) = true := by simpa using aCN)); (try (have aT9 : decide (aJ = 0 && (aM == 0 && (aN.toList == ([] : List UInt8)))) = true := by simpa using VF)); (try (have c3C : (aJ == 0 && (aM == 0 && (aN.toList == ([] : List UInt8)))) = true := by simpa using VF)); clear VF
          by_cases c23 : aQ.toList = ([] : List UInt8)
          ·rw [if_pos c23] at H
           have aT5 : (aQ.toList == ([] : List UInt8)) = true := beq_iff_eq.mpr c23; have aRZ : (aQ.toList != ([] : List UInt8)) = false := bne_eq_false_iff_eq.mpr c23; clear c23; obtain rfl := Option.some.inj H; obtain ⟨VJ, V3, VL, a3O, a5L, a2B, a8Q, V6, VC, VG, a9C, a1V, a3C, a9B⟩ := b7_ fD
           go_wp2_with (first | ((with_reducible refine gate_callee (f := 50) rfl ?_); refine gsL_ (some 40) Tryz.func50 #[.int .i64 aI, .int .i64 0, .int .i64 11] ?_; (with_reducible refine (spec_l01In.calls aI 0 11 true _ DV.out).mono ?_); rintro e w' ⟨rfl, ⟨nd, rfl⟩⟩; refine ⟨_, rfl, ?_⟩))
           go_ret
           exact ⟨er_, bb_⟩
          ·rw [if_neg c23] at H
           have aT5 : (aQ.toList == ([] : List UInt8)) = false := beq_eq_false_iff_ne.mpr c23; have aRZ : (aQ.toList != ([] : List UInt8)) = true := bne_iff_ne.mpr c23; obtain rfl := Option.some.inj H; obtain ⟨mU, mX, pQ, wP, y9, xM, xI, mP, mR, oJ, yC, yD, xP, xS⟩ := b7_ fD
           go_wp2_with (first | ((with_reducible refine gate_callee (f := 50) rfl ?_); refine gsL_ (some 40) Tryz.func50 #[.int .i64 aI, .int .i64 0, .int .i64 11] ?_; (with_reducible refine (spec_l01In.calls aI 0 11 true _ DV.out).mono ?_); rintro e w' ⟨rfl, ⟨nd, rfl⟩⟩; refine ⟨_, rfl, ?_⟩))
           go_ret
           exact ⟨er_, bb_⟩
         ·rw [if_neg VF] at H
          (have aCN : (aJ == 0 && (aM == 0 && (aN.toList == ([] : List UInt8)))) = false := by simpa using VF); (try (have bTD : (aJ == 0 && (aM == 0 && (aN.toList.isEmpty))) = false := by simpa using aCN)); (try (have aT9 : decide (aJ = 0 && (aM == 0 && (aN.toList == ([] : List UInt8)))) = false := by simpa using VF)); (try (have c3C : (aJ == 0 && (aM == 0 && (aN.toList == ([] : List UInt8)))) = false := by simpa using VF)); (try (have d29 : ¬ (aJ = 0 && (aM == 0 && (aN.toList == ([] : List UInt8)))) := by simpa using VF)); clear VF; obtain rfl := Option.some.inj H; obtain ⟨OW, M8, WJ, WI, VU, WP, WC, S9, LP, UY, VV, VO, VW, WH⟩ := b7_ fD
          go_wp2_with (first | ((with_reducible refine gate_callee (f := 50) rfl ?_); refine gsL_ (some 40) Tryz.func50 #[.int .i64 aI, .int .i64 0, .int .i64 11] ?_; (with_reducible refine (spec_l01In.calls aI 0 11 true _ DV.out).mono ?_); rintro e w' ⟨rfl, ⟨nd, rfl⟩⟩; refine ⟨_, rfl, ?_⟩))
          go_ret
          exact ⟨er_, bb_⟩
        ·replace c21 := Bool.eq_false_iff.mpr c21
         subst c21; (rw [if_neg (show ¬ (false = true) by decide)] at H); obtain rfl := Option.some.inj H; obtain ⟨a7G, a3T, a6Z, b1H, aYX, aZD, aWV, a6R, a1N, a4N, aY7, b3E, b3D, aYV⟩ := b7_ fD
         go_wp2_with (first | ((with_reducible refine gate_callee (f := 50) rfl ?_); refine gsL_ (some 40) Tryz.func50 #[.int .i64 aI, .int .i64 0, .int .i64 11] ?_; (with_reducible refine (spec_l01In.calls aI 0 11 false _ DV.out).mono ?_); rintro e w' ⟨rfl, ⟨nd, rfl⟩⟩; refine ⟨_, rfl, ?_⟩))
         go_ret
         exact ⟨er_, bb_⟩
       ·rw [if_neg c19] at H
        have UM : (aD == 0) = false := beq_eq_false_iff_ne.mpr c19; have a0K : (aD != 0) = true := bne_iff_ne.mpr c19
        by_cases c28 : aD = 1
        ·rw [if_pos c28] at H
         have aCT : (aD == 1) = true := beq_iff_eq.mpr c28; have aCQ : (aD != 1) = false := bne_eq_false_iff_eq.mpr c28; clear c28; replace H := bsi_ H; obtain ⟨bAF, aBR, H⟩ := H
         try dsimp only at H
         have A29 := am_ aBR; clear aBR
         by_cases c30 : bAF = true
         ·subst c30
          rw [if_pos rfl] at H
          by_cases c31 : aI = 0
          ·rw [if_pos c31] at H
           have aHG : (aI == 0) = true := beq_iff_eq.mpr c31; have c1L : (aI != 0) = false := bne_eq_false_iff_eq.mpr c31; clear c31
           by_cases c32 : aQ.toList = ([] : List UInt8)
           ·rw [if_pos c32] at H
            have bL2 : (aQ.toList == ([] : List UInt8)) = true := beq_iff_eq.mpr c32; have cBO : (aQ.toList != ([] : List UInt8)) = false := bne_eq_false_iff_eq.mpr c32; clear c32; obtain rfl := Option.some.inj H; obtain ⟨aKY, aHZ, aK3, aLQ, aIS, aNG, aN6, aK6, aJT, aNE, aHS, aLH, aHA, aKV⟩ := b7_ fD
            go_wp2_with (first | ((with_reducible refine gate_callee (f := 112) rfl ?_); refine gsL_ (some 62) Tryz.func112 #[.agg #[.int .i64 aJ, .int .i64 aM, .string aN]] ?_; (with_reducible refine (spec_ValueOk.calls aJ aM aN true _ A29.out).mono ?_); rintro e w34 ⟨rfl, hb⟩; refine ⟨_, rfl, ?_⟩; replace fD := bkb_ fD hb; replace HB := bs_ hb; (try clear hb); obtain ⟨aIZ, aLN, aKZ, aHE, aH2, aNF, aLD, aL5, aLB, aI4, aJ8, aI2, aHC, aKM⟩ := b7_ fD))
            go_ret
            exact ⟨er_, bb_⟩
           ·rw [if_neg c32] at H
            have bL2 : (aQ.toList == ([] : List UInt8)) = false := beq_eq_false_iff_ne.mpr c32; have cBO : (aQ.toList != ([] : List UInt8)) = true := bne_iff_ne.mpr c32; obtain rfl := Option.some.inj H; obtain ⟨a1X, a8W, a5C, b4L, b0Y, aXO, b0V, a4A, a2S, a8L, b4S, b08, b5D, b3Y⟩ := b7_ fD
            go_wp2_with (first | ((with_reducible refine gate_callee (f := 112) rfl ?_); refine gsL_ (some 62) Tryz.func112 #[.agg #[.int .i64 aJ, .int .i64 aM, .string aN]] ?_; (with_reducible refine (spec_ValueOk.calls aJ aM aN true _ A29.out).mono ?_); rintro e w37 ⟨rfl, hb⟩; refine ⟨_, rfl, ?_⟩; replace fD := bkb_ fD hb; replace HB := bs_ hb; (try clear hb); obtain ⟨cFY, cMT, cIE, cT6, cQO, cL2, cLR, cNX, cP5, cR1, cMB, cG0, cJ4, cRE⟩ := b7_ fD))
            go_ret
            exact ⟨er_, bb_⟩
          ·rw [if_neg c31] at H
           have aHG : (aI == 0) = false := beq_eq_false_iff_ne.mpr c31; have c1L : (aI != 0) = true := bne_iff_ne.mpr c31; obtain rfl := Option.some.inj H; obtain ⟨VA, WN, WF, WG, VB, V8, WK, WA, V9, WE, W9, VI, WM, UZ⟩ := b7_ fD
           go_wp2_with (first | ((with_reducible refine gate_callee (f := 112) rfl ?_); refine gsL_ (some 62) Tryz.func112 #[.agg #[.int .i64 aJ, .int .i64 aM, .string aN]] ?_; (with_reducible refine (spec_ValueOk.calls aJ aM aN true _ A29.out).mono ?_); rintro e w40 ⟨rfl, hb⟩; refine ⟨_, rfl, ?_⟩; replace fD := bkb_ fD hb; replace HB := bs_ hb; (try clear hb); obtain ⟨cQN, cJG, cPS, cF0, cOS, cDI, cIB, cN3, cQ3, cON, cPP, cI6, cL5, cR4⟩ := b7_ fD))
           go_ret
           exact ⟨er_, bb_⟩
         ·replace c30 := Bool.eq_false_iff.mpr c30
          subst c30; (rw [if_neg (show ¬ (false = true) by decide)] at H); obtain rfl := Option.some.inj H; obtain ⟨aYZ, b37, b3Q, b48, b2E, b2Y, aZ6, b0U, b0Z, aZ7, b44, b58, aYL, b0N⟩ := b7_ fD
          go_wp2_with (first | ((with_reducible refine gate_callee (f := 112) rfl ?_); refine gsL_ (some 62) Tryz.func112 #[.agg #[.int .i64 aJ, .int .i64 aM, .string aN]] ?_; (with_reducible refine (spec_ValueOk.calls aJ aM aN false _ A29.out).mono ?_); rintro e w43 ⟨rfl, hb⟩; refine ⟨_, rfl, ?_⟩; replace fD := bkb_ fD hb; replace HB := bs_ hb; (try clear hb)))
          go_ret
          exact ⟨er_, bb_⟩
        ·rw [if_neg c28] at H
         have aCT : (aD == 1) = false := beq_eq_false_iff_ne.mpr c28; have aCQ : (aD != 1) = true := bne_iff_ne.mpr c28
         by_cases c44 : aD = 2
         ·rw [if_pos c44] at H
          have b6W : (aD == 2) = true := beq_iff_eq.mpr c44; have b6G : (aD != 2) = false := bne_eq_false_iff_eq.mpr c44; clear c44
          by_cases c45 : a0V = true
          ·subst c45
           rw [if_pos rfl] at H
           by_cases c46 : (aV.length : Int) = 2
           ·rw [if_pos c46] at H
            have cAT : ((aV.length : Int) == 2) = true := beq_iff_eq.mpr c46; have bJK : ((aV.length : Int) != 2) = false := bne_eq_false_iff_eq.mpr c46; clear c46; obtain ⟨cAU, a9U⟩ : ∃ y_ : List ByteArray, y_ = (([(⟨#[43]⟩ : ByteArray), (⟨#[45]⟩ : ByteArray), (⟨#[42]⟩ : ByteArray), (⟨#[47]⟩ : ByteArray), (⟨#[61]⟩ : ByteArray), (⟨#[60]⟩ : ByteArray), (⟨#[126]⟩ : ByteArray), (⟨#[97, 110, 100]⟩ : ByteArray), (⟨#[111, 114]⟩ : ByteArray)] : List ByteArray)) := ⟨_, rfl⟩; (replace H : ((spec_l03Has.f bX4 cAU aQ).bind fun t203 => (some t203)) = some r := by first | (rw [a9U]; with_reducible exact H) | (have gK := (Option.bind_some _ _).symm.trans H; rw [a9U]; with_reducible exact gK) | (have gK := (Option.bind_some _ _).symm.trans H; with_reducible exact gK) | with_reducible exact H | (rw [a9U]; exact H) | exact H); have b6S := am_ a9U; clear a9U; replace H := bsi_ H; obtain ⟨t203, bPE, H⟩ := H
            try dsimp only at H
            have A47 := am_ bPE; clear bPE; obtain rfl := Option.some.inj H; obtain ⟨aXH, aXY, b4P, b29, b1E, b0E, aXG, aXL, aY1, b1X, b3P, aWS, b1C, aWK⟩ := b7_ fD
            go_wp2_with (first | ((with_reducible refine gate_dst (N := 89) rfl ?_); (try (refine gate_guard (by rfl) ?_; dsimp only)); refine Kd.R_lit Kd.string _ 9 ?hg (N := 89) ?hd (xs := ([(⟨#[43]⟩ : ByteArray), (⟨#[45]⟩ : ByteArray), (⟨#[42]⟩ : ByteArray), (⟨#[47]⟩ : ByteArray), (⟨#[61]⟩ : ByteArray), (⟨#[60]⟩ : ByteArray), (⟨#[126]⟩ : ByteArray), (⟨#[97, 110, 100]⟩ : ByteArray), (⟨#[111, 114]⟩ : ByteArray)] : List ByteArray)) (inner := [.string (⟨#[43]⟩ : ByteArray), .string (⟨#[45]⟩ : ByteArray), .string (⟨#[42]⟩ : ByteArray), .string (⟨#[47]⟩ : ByteArray), .string (⟨#[61]⟩ : ByteArray), .string (⟨#[60]⟩ : ByteArray), .string (⟨#[126]⟩ : ByteArray), .string (⟨#[97, 110, 100]⟩ : ByteArray), .string (⟨#[111, 114]⟩ : ByteArray)]) (ok := fun _ => True) (okp := fun _ => True) ?hr ?hp (fun _ hk => hk) trivial (Below.refl _ _) (Nat.le_refl _) (by simp) ?_; (case hd => rfl); (case hg => rfl); (case hr => first | (go_simp; done) | (go_simp; rfl)); (case hp => exact (Reps.one (show Kd.M Kd.string _ _ _ (⟨#[43]⟩ : ByteArray) [.string (⟨#[43]⟩ : ByteArray)] from rfl) (Reps.one (show Kd.M Kd.string _ _ _ (⟨#[45]⟩ : ByteArray) [.string (⟨#[45]⟩ : ByteArray)] from rfl) (Reps.one (show Kd.M Kd.string _ _ _ (⟨#[42]⟩ : ByteArray) [.string (⟨#[42]⟩ : ByteArray)] from rfl) (Reps.one (show Kd.M Kd.string _ _ _ (⟨#[47]⟩ : ByteArray) [.string (⟨#[47]⟩ : ByteArray)] from rfl) (Reps.one (show Kd.M Kd.string _ _ _ (⟨#[61]⟩ : ByteArray) [.string (⟨#[61]⟩ : ByteArray)] from rfl) (Reps.one (show Kd.M Kd.string _ _ _ (⟨#[60]⟩ : ByteArray) [.string (⟨#[60]⟩ : ByteArray)] from rfl) (Reps.one (show Kd.M Kd.string _ _ _ (⟨#[126]⟩ : ByteArray) [.string (⟨#[126]⟩ : ByteArray)] from rfl) (Reps.one (show Kd.M Kd.string _ _ _ (⟨#[97, 110, 100]⟩ : ByteArray) [.string (⟨#[97, 110, 100]⟩ : ByteArray)] from rfl) (Reps.one (show Kd.M Kd.string _ _ _ (⟨#[111, 114]⟩ : ByteArray) [.string (⟨#[111, 114]⟩ : ByteArray)] from rfl) (Reps.none _ _))))))))))); intro v201 w49 aQP hb AV fV; clear AV fV; (first | rw [← b6S.out] at aQP | (simp only [Int.reduceToNat] at aQP; rw [← b6S.out] at aQP)); have aVN := am_ (Kd.R_lower aQP (below_size bb_)); replace fD := bkb_ fD hb; replace HB := bs_ hb; clear hb aQP; obtain ⟨a2E, a6A, aHW, aJ2, aGN, aI1, aKT, a8I, a7X, aLS, aJN, aNI, aK8, aGL⟩ := b7_ fD; obtain ⟨cXP, cUD, bEC⟩ := Kd.R_slice aVN.out; subst bEC) | (go_at_call 113; (with_reducible refine (spec_l03Has.calls bX4 _ _ cAU aQ t203 _ ?aK ?aT A47.out).mono ?_); (case aK => exact ck_ (Kd.R_reads' aVN.out).2.2); (case aT => exact (Kd.R_reads' aVN.out).2.1); rintro e w' ⟨rfl, ⟨nd, rfl⟩⟩))
            go_ret
            exact ⟨er_, bb_⟩
           ·rw [if_neg c46] at H
            have cAT : ((aV.length : Int) == 2) = false := beq_eq_false_iff_ne.mpr c46; have bJK : ((aV.length : Int) != 2) = true := bne_iff_ne.mpr c46; obtain rfl := Option.some.inj H; obtain ⟨aWW, b2D, b2G, aZ9, b2S, b51, aWM, b0Q, aY4, aXN, aYF, aXW, aX9, aYY⟩ := b7_ fD
            go_wp2
            go_ret
            exact ⟨er_, bb_⟩
          ·replace c45 := Bool.eq_false_iff.mpr c45
           subst c45; (rw [if_neg (show ¬ (false = true) by decide)] at H); obtain rfl := Option.some.inj H; obtain ⟨aMS, aIH, b3I, aXF, b3L, b4H, aY0, aJK, aJ0, b2X, b0F, b4G, b5C, b5G⟩ := b7_ fD
           go_wp2
           go_ret
           exact ⟨er_, bb_⟩
         ·rw [if_neg c44] at H
          have b6W : (aD == 2) = false := beq_eq_false_iff_ne.mpr c44; have b6G : (aD != 2) = true := bne_iff_ne.mpr c44
          by_cases c55 : aD = 3
          ·rw [if_pos c55] at H
           have c52 : (aD == 3) = true := beq_iff_eq.mpr c55; have bZ6 : (aD != 3) = false := bne_eq_false_iff_eq.mpr c55; clear c55
           by_cases c56 : a0V = true
           ·subst c56
            rw [if_pos rfl] at H
            by_cases c57 : aQ.toList = ([] : List UInt8)
            ·rw [if_pos c57] at H
             have aTX : (aQ.toList == ([] : List UInt8)) = true := beq_iff_eq.mpr c57; have aRO : (aQ.toList != ([] : List UInt8)) = false := bne_eq_false_iff_eq.mpr c57; clear c57; obtain rfl := Option.some.inj H; obtain ⟨cJZ, cEY, cH8, cFW, cDL, cDE, cMS, cNI, cED, cKR, cIH, cJV, cMJ, cLP⟩ := b7_ fD
             go_wp2
             go_ret
             exact ⟨er_, bb_⟩
            ·rw [if_neg c57] at H
             have aTX : (aQ.toList == ([] : List UInt8)) = false := beq_eq_false_iff_ne.mpr c57; have aRO : (aQ.toList != ([] : List UInt8)) = true := bne_iff_ne.mpr c57; obtain rfl := Option.some.inj H; obtain ⟨aM2, aM8, aND, aHN, aGT, aJM, aJS, aGP, aMP, aKA, aGS, aI3, aJA, aMJ⟩ := b7_ fD
             go_wp2
             go_ret
             exact ⟨er_, bb_⟩
           ·replace c56 := Bool.eq_false_iff.mpr c56
            subst c56; (rw [if_neg (show ¬ (false = true) by decide)] at H); obtain rfl := Option.some.inj H; obtain ⟨aMC, aLR, aN4, aH0, aMG, aJH, aHM, aKB, aJQ, aIW, aKS, aLT, aIY, aLK⟩ := b7_ fD
            go_wp2
            go_ret
            exact ⟨er_, bb_⟩
          ·rw [if_neg c55] at H
           have c52 : (aD == 3) = false := beq_eq_false_iff_ne.mpr c55; have bZ6 : (aD != 3) = true := bne_iff_ne.mpr c55
           by_cases c61 : aD = 4
           ·rw [if_pos c61] at H
            have bNV : (aD == 4) = true := beq_iff_eq.mpr c61; have bQQ : (aD != 4) = false := bne_eq_false_iff_eq.mpr c61; clear c61
            by_cases c62 : a0V = true
            ·subst c62
             rw [if_pos rfl] at H
             by_cases c63 : aQ.toList = ([] : List UInt8)
             ·rw [if_pos c63] at H
              have bPO : (aQ.toList == ([] : List UInt8)) = true := beq_iff_eq.mpr c63; have c6N : (aQ.toList != ([] : List UInt8)) = false := bne_eq_false_iff_eq.mpr c63; clear c63; obtain rfl := Option.some.inj H; obtain ⟨b42, aYU, aZ1, aX4, b09, b4N, b21, b2R, b49, b4R, b3B, b50, b1L, aYW⟩ := b7_ fD
              go_wp2
              go_ret
              exact ⟨er_, bb_⟩
             ·rw [if_neg c63] at H
              have bPO : (aQ.toList == ([] : List UInt8)) = false := beq_eq_false_iff_ne.mpr c63; have c6N : (aQ.toList != ([] : List UInt8)) = true := bne_iff_ne.mpr c63; obtain rfl := Option.some.inj H; obtain ⟨a2K, a4G, aMI, aMB, aKQ, aKL, aH9, a7U, a5Z, aI5, aLI, aL9, aHV, aJJ⟩ := b7_ fD
              go_wp2
              go_ret
              exact ⟨er_, bb_⟩
            ·replace c62 := Bool.eq_false_iff.mpr c62
             subst c62; (rw [if_neg (show ¬ (false = true) by decide)] at H); obtain rfl := Option.some.inj H; obtain ⟨a5K, a5O, a1C, a9J, a2O, a7M, a5A, a4X, a8U, a92, a6M, a8C, a2Z, a1L⟩ := b7_ fD
             go_wp2
             go_ret
             exact ⟨er_, bb_⟩
           ·rw [if_neg c61] at H
            have bNV : (aD == 4) = false := beq_eq_false_iff_ne.mpr c61; have bQQ : (aD != 4) = true := bne_iff_ne.mpr c61; obtain rfl := Option.some.inj H; obtain ⟨cE7, cGO, cOJ, cSI, cNY, cRO, cDX, cLY, cMD, cNT, cPH, cSW, cIR, cTO⟩ := b7_ fD
            go_wp2
            go_ret
            exact ⟨er_, bb_⟩

end Go.Proofs.YtnobhkmpkichdaaGreat.PFnExactWidth
