-- WRITTEN BY xprint.py, a program of this session over the kit's printer: by nobody's hand
-- PRESSED4 -- PRESSED TWICE3 -- PRESSED TWICE
import Derived.Test.YtnobhkmpkichdaaGreatPress
import Derived.Test.YtnobhkmpkichdaaGreatPress3
import Derived.Test.YtnobhkmpkichdaaGreatPFnExactWidthx0
import Derived.Test.YtnobhkmpkichdaaGreatPFnExactWidthx3
namespace Go.Proofs.YtnobhkmpkichdaaGreat.PFnExactWidth
open Go.RowKit Go.Proofs.YtnobhkmpkichdaaGreatW.PrintWords Go.Proofs.YtnobhkmpkichdaaGreatW.PrintLast Go.Proofs.YtnobhkmpkichdaaGreatW.PrintMore
attribute [local go_sem] max2_int min2_int max_two min_two max_three min_three max_four min_four
set_option linter.unusedVariables false
set_option linter.unusedSimpArgs false

/-! ### spec_l04Form: function 47 -/
def spec_l04Form.j0 : Nat → Bool → Int → ByteArray → Int → Int → Int → Int → ByteArray → ByteArray → List (S39) → List (S39) → Int → List (S42) → Option (Bool)
 | 0, _, _, _, _, _, _, _, _, _, _, _, _, _ => none
 | k + 1, x26, CL, cKC, cPU, cII, cQB, cPL, cN1, cOO, cGN, b26, aJ3, VY => if x26 = true then (some false) else (if CL = 2 then (if CL = 6 then ((spec_l04Kids.f CL).bind fun bDQ => (some ((VY.length : Int) == bDQ))) else (if aJ3 = 0 then ((spec_l04Kids.f CL).bind fun t138 => (some ((VY.length : Int) == t138))) else (some false))) else (if CL = 6 then ((spec_l04Kids.f CL).bind fun t139 => (some ((VY.length : Int) == t139))) else (if (b26.length : Int) > 0 then (some false) else (if aJ3 = 0 then ((spec_l04Kids.f CL).bind fun bE9 => (some ((VY.length : Int) == bE9))) else (some false)))))
def spec_l04Form.f (k : Nat) (aD : Int) (aI : ByteArray) (aJ : Int) (aM : Int) (aN : Int) (aQ : Int) (bF : ByteArray) (bE : ByteArray) (bA : List (S39)) (aZ : List (S39)) (aU : Int) (aH : List (S42)) : Option (Bool) := if aD = 0 then (if aD = 1 then (spec_l04Form.j0 k false aD aI aJ aM aN aQ bF bE bA aZ aU aH) else (if aD = 3 then (spec_l04Form.j0 k false aD aI aJ aM aN aQ bF bE bA aZ aU aH) else ((spec_l04None.f aJ aM aN aQ bF bE bA).bind fun aPP => (spec_l04Form.j0 k (!aPP) aD aI aJ aM aN aQ bF bE bA aZ aU aH)))) else (if aI.toList = ([] : List UInt8) then (if aD = 1 then (spec_l04Form.j0 k false aD aI aJ aM aN aQ bF bE bA aZ aU aH) else (if aD = 3 then (spec_l04Form.j0 k false aD aI aJ aM aN aQ bF bE bA aZ aU aH) else ((spec_l04None.f aJ aM aN aQ bF bE bA).bind fun aPE => (spec_l04Form.j0 k (!aPE) aD aI aJ aM aN aQ bF bE bA aZ aU aH)))) else (spec_l04Form.j0 k true aD aI aJ aM aN aQ bF bE bA aZ aU aH))
def spec_l04Form.T5 : Bool × List (List Nat × List Nat) := (true, [([], []), ([0], [0]), ([1], [1]), ([], []), ([3], [3]), ([4], [4]), ([2, 5], [2, 5]), ([6, 5, 0, 1, 2, 3, 4, 5, 6], [6])])
def spec_l04Form.B5 : List Nat := [0, 1, 3, 0, 8, 24, 63, 127]
theorem spec_l04Form.b1T : rtab .any (opsOf Tryz.f47 5) = spec_l04Form.T5 := by kernel_rfl
theorem spec_l04Form.aJB : waitsOk spec_l04Form.T5.2 spec_l04Form.B5 = true := by kernel_rfl
set_option maxHeartbeats 8000000 in
set_option maxRecDepth 100000 in
theorem spec_l04Form.calls (k : Nat) (aD : Int) (aI : ByteArray) (aJ : Int) (aM : Int) (aN : Int) (aQ : Int) (bF : ByteArray) (bE : ByteArray) (cO : Option Addr) (cK : Nat) (bA : List (S39)) (dA : Option Addr) (dB : Nat) (aZ : List (S39)) (aU : Int) (bM : Option Addr) (bK : Nat) (aH : List (S42)) (r : Bool) (w : World) (iL : Kd.C gL w cO bA.length bA) (iR : bA.length ≤ cK) (iP : Kd.C gL w dA aZ.length aZ) (iI : aZ.length ≤ dB) (fQ : Kd.C qD w bM aH.length aH) (fZ : aH.length ≤ bK) (h : spec_l04Form.f k aD aI aJ aM aN aQ bF bE bA aZ aU aH = some r) :
  Calls Tryz.prog 47 #[.agg #[.int .i64 aD, .string aI, .int .i64 aJ, .int .i64 aM, .int .i64 aN, .int .i64 aQ, .string bF, .string bE, .slice cO bA.length cK, .slice dA aZ.length dB, .int .i64 aU, .slice bM aH.length bK]] w fun e w' => e = .returned (.bool r) ∧ Below w.heap.size w w' := by
 have UU := Tryz.underlying42
 have vN := Tryz.underlying39
 have dV := am_ iL
 have dU := am_ iR
 clear iL iR
 have fC := am_ iP
 have fG := am_ iI
 clear iP iI
 have dZ := am_ fQ
 have eO := am_ fZ
 clear fQ fZ
 have HB := am_ (Below.refl w.heap.size w)
 have H : (if aD = 0 then (if aD = 1 then (spec_l04Form.j0 k false aD aI aJ aM aN aQ bF bE bA aZ aU aH) else (if aD = 3 then (spec_l04Form.j0 k false aD aI aJ aM aN aQ bF bE bA aZ aU aH) else ((spec_l04None.f aJ aM aN aQ bF bE bA).bind fun aPP => (spec_l04Form.j0 k (!aPP) aD aI aJ aM aN aQ bF bE bA aZ aU aH)))) else (if aI.toList = ([] : List UInt8) then (if aD = 1 then (spec_l04Form.j0 k false aD aI aJ aM aN aQ bF bE bA aZ aU aH) else (if aD = 3 then (spec_l04Form.j0 k false aD aI aJ aM aN aQ bF bE bA aZ aU aH) else ((spec_l04None.f aJ aM aN aQ bF bE bA).bind fun aPE => (spec_l04Form.j0 k (!aPE) aD aI aJ aM aN aQ bF bE bA aZ aU aH)))) else (spec_l04Form.j0 k true aD aI aJ aM aN aQ bF bE bA aZ aU aH))) = some r := h
 clear h
 have HC2 := am_ H
 clear H
 go_enter Tryz.func47, Tryz.ntmps47
 go_upto_region 1 with (first | ((with_reducible refine gate_dst (N := 1) rfl ?_); (try (refine gate_guard (by rfl) ?_; dsimp only)); refine bx_ 1 #[.int .i64 aD, .string aI, .int .i64 aJ, .int .i64 aM, .int .i64 aN, .int .i64 aQ, .string bF, .string bE, .slice cO bA.length cK, .slice dA aZ.length dB, .int .i64 aU, .slice bM aH.length bK] 42 ?_; intro fA hg w3 hbox hb; have bR := am_ (hbox); have d0U := gw_ hg; have cZR := gw_ hg; replace HB := bs_ hb; clear hb hbox hg))
 (try simp only [Act.put, List.setIfInBounds_toArray, List.set_cons_zero, List.set_cons_succ])
 go_cut [26] (fun v26 wc => ∃ (kq : Nat) (aJF : Bool), v26 = .bool aJF ∧ Aside0 (spec_l04Form.j0 kq aJF aD aI aJ aM aN aQ bF bE bA aZ aU aH = some r) ∧ Aside0 (kq ≤ k) ∧ Aside0 (wc.heap[fA]? = some (.cells #[.int .i64 aD, .string aI, .int .i64 aJ, .int .i64 aM, .int .i64 aN, .int .i64 aQ, .string bF, .string bE, (.slice cO bA.length cK), (.slice dA aZ.length dB), .int .i64 aU, (.slice bM aH.length bK)] 42 (0, 0))) ∧ Aside0 (Below w.heap.size w wc))
 case first =>
  have H := HC2.out; clear HC2
  by_cases c4 : aD = 0
  ·rw [if_pos c4] at H
   have gB : (aD == 0) = true := beq_iff_eq.mpr c4; have a0F : (aD != 0) = false := bne_eq_false_iff_eq.mpr c4; clear c4; (first | rw [gB] | (simp only [i64_w, i32_w]; rw [gB]) | skip)
   by_cases c5 : aD = 1
   ·rw [if_pos c5] at H
    have pV : (aD == 1) = true := beq_iff_eq.mpr c5; have TB : (aD != 1) = false := bne_eq_false_iff_eq.mpr c5; clear c5; have H' := am_ H; clear H; obtain ⟨jR, jT, lK, lT, lM, lU, lS, bCK, bAI, bEA, b55, aWR, jU, jS, lW, lQ, lX, lL, lV, bC3, bED, bE8, b4C, aYG⟩ := b12_ bR
    go_wp2
    go_meet
    case rel => exact ⟨_, (false), rs_, H', ⟨by first | omega | exact Nat.le_refl _⟩, ⟨bkx_ bR.out⟩, ⟨bb_⟩⟩
   ·rw [if_neg c5] at H
    have pV : (aD == 1) = false := beq_eq_false_iff_ne.mpr c5; have TB : (aD != 1) = true := bne_iff_ne.mpr c5
    by_cases c7 : aD = 3
    ·rw [if_pos c7] at H
     have gJ : (aD == 3) = true := beq_iff_eq.mpr c7; have CF : (aD != 3) = false := bne_eq_false_iff_eq.mpr c7; clear c7; have H' := am_ H; clear H; obtain ⟨nH, nD, rC, wC, wD, vU, vW, U4, U8, TG, I8, IX, nC, nG, rA, vQ, wF, vP, vY, TP, TJ, TZ, IQ, IM⟩ := b12_ bR
     go_wp2
     go_meet
     case rel => exact ⟨_, (false), rs_, H', ⟨by first | omega | exact Nat.le_refl _⟩, ⟨bkx_ bR.out⟩, ⟨bb_⟩⟩
    ·rw [if_neg c7] at H
     have gJ : (aD == 3) = false := beq_eq_false_iff_ne.mpr c7; have CF : (aD != 3) = true := bne_iff_ne.mpr c7; replace H := bsi_ H; obtain ⟨aPP, A90, H⟩ := H
     try dsimp only at H
     have A9 := am_ A90; clear A90; have H' := am_ H; clear H; obtain ⟨iM, iE, jW, wR, wW, xJ, xA, aIA, aH5, aLA, aBB, aCH, iJ, iN, kF, y5, wX, xG, xE, aJR, aH8, aH6, aC5, aBU⟩ := b12_ bR
     go_wp2_with (first | (go_at_call 67; (with_reducible refine (spec_l04None.calls aJ aM aN aQ bF bE _ _ bA aPP _ ?aK ?aT A9.out).mono ?_); (case aK => exact ck_ (Kd.C_below dV.out HB.out)); (case aT => exact dU.out); rintro e iC ⟨rfl, hb⟩; have n0_ := bkb_ bR hb; have n1_ := bs_ hb; clear bR; clear HB; have bR := n0_; have HB := n1_; clear n0_ n1_; (try clear hb)))
     go_meet
     case rel => exact ⟨_, (!aPP), rs_, H', ⟨by first | omega | exact Nat.le_refl _⟩, ⟨bkx_ bR.out⟩, ⟨bb_⟩⟩
  ·rw [if_neg c4] at H
   have gB : (aD == 0) = false := beq_eq_false_iff_ne.mpr c4; have a0F : (aD != 0) = true := bne_iff_ne.mpr c4; (first | rw [gB] | (simp only [i64_w, i32_w]; rw [gB]) | skip)
   by_cases c12 : aI.toList = ([] : List UInt8)
   ·rw [if_pos c12] at H
    have yU : (aI.toList == ([] : List UInt8)) = true := beq_iff_eq.mpr c12; have aHY : (aI.toList != ([] : List UInt8)) = false := bne_eq_false_iff_eq.mpr c12; clear c12
    by_cases c13 : aD = 1
    ·rw [if_pos c13] at H
     have G7 : (aD == 1) = true := beq_iff_eq.mpr c13; have a0L : (aD != 1) = false := bne_eq_false_iff_eq.mpr c13; clear c13; have H' := am_ H; clear H; obtain ⟨nY, oK, sQ, zT, AJ, BG, zV, RJ, JZ, OB, EJ, F9, p9, nU, vJ, CR, CU, BC, AP, OX, K6, SC, E5, EO⟩ := b12_ bR
     go_wp2
     go_meet
     case rel => exact ⟨_, (false), rs_, H', ⟨by first | omega | exact Nat.le_refl _⟩, ⟨bkx_ bR.out⟩, ⟨bb_⟩⟩
    ·rw [if_neg c13] at H
     have G7 : (aD == 1) = false := beq_eq_false_iff_ne.mpr c13; have a0L : (aD != 1) = true := bne_iff_ne.mpr c13
     by_cases c15 : aD = 3
     ·rw [if_pos c15] at H
      have aW8 : (aD == 3) = true := beq_iff_eq.mpr c15; have b66 : (aD != 3) = false := bne_eq_false_iff_eq.mpr c15; clear c15; have H' := am_ H; clear H; obtain ⟨mO, mY, oV, qU, qQ, qR, qN, K7, QU, LK, FE, EY, mQ, mG, nX, qK, qG, qJ, qM, NH, PL, JP, ER, EK⟩ := b12_ bR
      go_wp2
      go_meet
      case rel => exact ⟨_, (false), rs_, H', ⟨by first | omega | exact Nat.le_refl _⟩, ⟨bkx_ bR.out⟩, ⟨bb_⟩⟩
     ·rw [if_neg c15] at H
      have aW8 : (aD == 3) = false := beq_eq_false_iff_ne.mpr c15; have b66 : (aD != 3) = true := bne_iff_ne.mpr c15; replace H := bsi_ H; obtain ⟨aPE, aQH, H⟩ := H
      try dsimp only at H
      have A17 := am_ aQH; clear aQH; have H' := am_ H; clear H; obtain ⟨rQ, sU, wL, zU, BF, AQ, CJ, a6H, a7K, a2Q, YG, YP, sD, sG, xQ, BQ, zY, CO, D6, a2I, a6B, a4T, XC, ZA⟩ := b12_ bR
      go_wp2_with (first | (go_at_call 67; (with_reducible refine (spec_l04None.calls aJ aM aN aQ bF bE _ _ bA aPE _ ?aK ?aT A17.out).mono ?_); (case aK => exact ck_ (Kd.C_below dV.out HB.out)); (case aT => exact dU.out); rintro e w19 ⟨rfl, hb⟩; have n0_ := bkb_ bR hb; have n1_ := bs_ hb; clear bR; clear HB; have bR := n0_; have HB := n1_; clear n0_ n1_; (try clear hb)))
      go_meet
      case rel => exact ⟨_, (!aPE), rs_, H', ⟨by first | omega | exact Nat.le_refl _⟩, ⟨bkx_ bR.out⟩, ⟨bb_⟩⟩
   ·rw [if_neg c12] at H
    have yU : (aI.toList == ([] : List UInt8)) = false := beq_eq_false_iff_ne.mpr c12; have aHY : (aI.toList != ([] : List UInt8)) = true := bne_iff_ne.mpr c12; have H' := am_ H; clear H; obtain ⟨xC, xB, D5, IG, GU, GI, GL, a1W, a8G, a7B, a01, Z9, wM, wY, zW, GH, GR, GJ, IA, a3W, a6C, a1R, WY, YD⟩ := b12_ bR
    go_wp2
    go_meet
    case rel => exact ⟨_, (true), rs_, H', ⟨by first | omega | exact Nat.le_refl _⟩, ⟨bkx_ bR.out⟩, ⟨bb_⟩⟩
 case rest =>
  clear HC2; (try clear c1); (try clear p2); (try clear c4); (try clear gB); (try clear a0F); (try clear c5); (try clear pV); (try clear TB); (try clear c7); (try clear gJ); (try clear CF); (try clear c12); (try clear yU); (try clear aHY); (try clear c13); (try clear G7); (try clear a0L); (try clear c15); (try clear aW8); (try clear b66); (try clear iM iE); (try clear aBB); (try clear aCH); (try clear jW wR wW xJ xA aIA aH5 aLA); (try clear nY oK); (try clear EJ); (try clear F9); (try clear sQ zT AJ BG zV RJ JZ OB); (try clear mO mY); (try clear FE); (try clear EY); (try clear oV qU qQ qR qN K7 QU LK); (try clear rQ sU); (try clear YG); (try clear YP); (try clear wL zU BF AQ CJ a6H a7K a2Q); (try clear xC xB); (try clear a01); (try clear Z9); (try clear D5 IG GU GI GL a1W a8G a7B); (try clear jR jT); (try clear b55); (try clear aWR); (try clear lK lT lM lU lS bCK bAI bEA); (try clear nH nD); (try clear I8); (try clear IX); (try clear rC wC wD vU vW U4 U8 TG); (try clear iJ iN); (try clear aC5); (try clear aBU); (try clear kF y5 wX xG xE aJR aH8 aH6); (try clear p9 nU); (try clear E5); (try clear EO); (try clear vJ CR CU BC AP OX K6 SC); (try clear mQ mG); (try clear ER); (try clear EK); (try clear nX qK qG qJ qM NH PL JP); (try clear sD sG); (try clear XC); (try clear ZA); (try clear xQ BQ zY CO D6 a2I a6B a4T); (try clear wM wY); (try clear WY); (try clear YD); (try clear zW GH GR GJ IA a3W a6C a1R); (try clear jU jS); (try clear b4C); (try clear aYG); (try clear lW lQ lX lL lV bC3 bED bE8); (try clear nC nG); (try clear IQ); (try clear IM); (try clear rA vQ wF vP vY TP TJ TZ); obtain ⟨kq, aJF, rfl, HA, HJ1, bR, HB⟩ := hcut
  cases kq with
  | zero => exact absurd HA.out (by simp [spec_l04Form.j0])
  | succ kj1 =>
   have H := HA.out; clear HA; simp only [spec_l04Form.j0] at H
   by_cases c21 : aJF = true
   ·subst c21
    rw [if_pos rfl] at H; obtain rfl := Option.some.inj H
    go_wp2
    go_ret
    exact ⟨er_, bb_⟩
   ·replace c21 := Bool.eq_false_iff.mpr c21
    subst c21; (rw [if_neg (show ¬ (false = true) by decide)] at H)
    by_cases VF : aD = 2
    ·rw [if_pos VF] at H
     have aCN : (aD == 2) = true := beq_iff_eq.mpr VF; have aT9 : (aD != 2) = false := bne_eq_false_iff_eq.mpr VF; clear VF
     by_cases c23 : aD = 6
     ·rw [if_pos c23] at H
      have aT5 : (aD == 6) = true := beq_iff_eq.mpr c23; have aRZ : (aD != 6) = false := bne_eq_false_iff_eq.mpr c23; clear c23; replace H := bsi_ H; obtain ⟨bDQ, aRS, H⟩ := H
      try dsimp only at H
      have A24 := am_ aRS; clear aRS; obtain rfl := Option.some.inj H; obtain ⟨mU, mX, pQ, wP, y9, xM, xI, aML, aGV, aM6, aCC, aAL, mP, mR, oJ, yC, yD, xP, xS, aKO, aJ1, aNL, aCG, aAE⟩ := b12_ bR
      try go_wp2
      replace bR := am_ (blk_drew bR.out); replace HB := am_ (below_drew1 HB.out); (refine start_ (n := 8) (S := fun w' => w'.cell? ⟨fA, 0, none⟩ = some (.int .i64 aD) ∧ w'.cell? ⟨fA, 1, none⟩ = some (.string aI) ∧ w'.cell? ⟨fA, 2, none⟩ = some (.int .i64 aJ) ∧ w'.cell? ⟨fA, 3, none⟩ = some (.int .i64 aM) ∧ w'.cell? ⟨fA, 4, none⟩ = some (.int .i64 aN) ∧ w'.cell? ⟨fA, 5, none⟩ = some (.int .i64 aQ) ∧ w'.cell? ⟨fA, 6, none⟩ = some (.string bF) ∧ w'.cell? ⟨fA, 7, none⟩ = some (.string bE) ∧ w'.cell? ⟨fA, 8, none⟩ = some (.slice cO bA.length cK) ∧ w'.cell? ⟨fA, 9, none⟩ = some (.slice dA aZ.length dB) ∧ w'.cell? ⟨fA, 10, none⟩ = some (.int .i64 aU) ∧ w'.cell? ⟨fA, 11, none⟩ = some (.slice bM aH.length bK)) (ds := []) (tf 0 8) (by kernel_rfl) rfl rfl ⟨bc_ bR 0, bc_ bR 1, bc_ bR 2, bc_ bR 3, bc_ bR 4, bc_ bR 5, bc_ bR 6, bc_ bR 7, bc_ bR 8, bc_ bR 9, bc_ bR 10, bc_ bR 11⟩ (fun hHeld => ?_); refine with_tabW spec_l04Form.b1T spec_l04Form.aJB (fun HT_ HW_ => ?_)); generalize wc.drew = w26 at bR HB hHeld ⊢; refine pl_ ?_; refine plx_ 3 (bm 8 9) ?_; refine tlx_ 1 (bm 8 11) ?_; refine plx_ 2 (tf 4 4) ?_; refine tl_ ?_; refine on1_ (i := 5) (N := some 56) (tf 6 2) (h := fun K hK => ?_); refine gs_ Tryz.func68 #[.int .i64 aD] ?_; (with_reducible refine (spec_l04Kids.calls aD bDQ _ A24.out).mono ?_); rintro e w27 ⟨rfl, hb⟩; refine ⟨_, rfl, ?_⟩; replace bR := bkb_ bR hb; replace HB := bs_ hb; (try clear hb); refine hK.out _ _ ⟨bc_ bR 0, bc_ bR 1, bc_ bR 2, bc_ bR 3, bc_ bR 4, bc_ bR 5, bc_ bR 6, bc_ bR 7, bc_ bR 8, bc_ bR 9, bc_ bR 10, bc_ bR 11⟩ (fun hHeld => ?_); clear hK K; refine nm_ ?_; refine plx_ 6 (tf 7 1) ?_; refine pl_ ?_; refine done_ (done_of HT_.out (by kernel_rfl)) ?_
      try go_wp2
      go_ret
      exact ⟨er_, bb_⟩
     ·rw [if_neg c23] at H
      have aT5 : (aD == 6) = false := beq_eq_false_iff_ne.mpr c23; have aRZ : (aD != 6) = true := bne_iff_ne.mpr c23
      by_cases c28 : aU = 0
      ·rw [if_pos c28] at H
       have aCT : (aU == 0) = true := beq_iff_eq.mpr c28; have aCQ : (aU != 0) = false := bne_eq_false_iff_eq.mpr c28; clear c28; replace H := bsi_ H; obtain ⟨t138, aBR, H⟩ := H
       try dsimp only at H
       have A29 := am_ aBR; clear aBR; obtain rfl := Option.some.inj H; obtain ⟨a4Q, a8X, a3Y, a5X, a7W, a6G, a4R, a3G, a5M, a7T, WX, X6, a7H, a4J, a6S, a5E, a4E, a3X, a9H, a1E, a7Y, a7Z, Z0, XL⟩ := b12_ bR
       try go_wp2
       replace bR := am_ (blk_drew bR.out); replace HB := am_ (below_drew1 HB.out); (refine start_ (n := 8) (S := fun w' => w'.cell? ⟨fA, 0, none⟩ = some (.int .i64 aD) ∧ w'.cell? ⟨fA, 1, none⟩ = some (.string aI) ∧ w'.cell? ⟨fA, 2, none⟩ = some (.int .i64 aJ) ∧ w'.cell? ⟨fA, 3, none⟩ = some (.int .i64 aM) ∧ w'.cell? ⟨fA, 4, none⟩ = some (.int .i64 aN) ∧ w'.cell? ⟨fA, 5, none⟩ = some (.int .i64 aQ) ∧ w'.cell? ⟨fA, 6, none⟩ = some (.string bF) ∧ w'.cell? ⟨fA, 7, none⟩ = some (.string bE) ∧ w'.cell? ⟨fA, 8, none⟩ = some (.slice cO bA.length cK) ∧ w'.cell? ⟨fA, 9, none⟩ = some (.slice dA aZ.length dB) ∧ w'.cell? ⟨fA, 10, none⟩ = some (.int .i64 aU) ∧ w'.cell? ⟨fA, 11, none⟩ = some (.slice bM aH.length bK)) (ds := []) (tf 0 8) (by kernel_rfl) rfl rfl ⟨bc_ bR 0, bc_ bR 1, bc_ bR 2, bc_ bR 3, bc_ bR 4, bc_ bR 5, bc_ bR 6, bc_ bR 7, bc_ bR 8, bc_ bR 9, bc_ bR 10, bc_ bR 11⟩ (fun hHeld => ?_); refine with_tabW spec_l04Form.b1T spec_l04Form.aJB (fun HT_ HW_ => ?_)); generalize wc.drew = w31 at bR HB hHeld ⊢; refine pl_ ?_; refine plx_ 3 (bm 8 9) ?_; refine tlx_ 1 (bm 8 11) ?_; refine plx_ 2 (tf 4 4) ?_; refine tl_ ?_; refine on1_ (i := 5) (N := some 56) (tf 6 2) (h := fun K hK => ?_); refine gs_ Tryz.func68 #[.int .i64 aD] ?_; (with_reducible refine (spec_l04Kids.calls aD t138 _ A29.out).mono ?_); rintro e w32 ⟨rfl, hb⟩; refine ⟨_, rfl, ?_⟩; replace bR := bkb_ bR hb; replace HB := bs_ hb; (try clear hb); refine hK.out _ _ ⟨bc_ bR 0, bc_ bR 1, bc_ bR 2, bc_ bR 3, bc_ bR 4, bc_ bR 5, bc_ bR 6, bc_ bR 7, bc_ bR 8, bc_ bR 9, bc_ bR 10, bc_ bR 11⟩ (fun hHeld => ?_); clear hK K; refine nm_ ?_; refine plx_ 6 (tf 7 1) ?_; refine pl_ ?_; refine done_ (done_of HT_.out (by kernel_rfl)) ?_
       try go_wp2
       go_ret
       exact ⟨er_, bb_⟩
      ·rw [if_neg c28] at H
       have aCT : (aU == 0) = false := beq_eq_false_iff_ne.mpr c28; have aCQ : (aU != 0) = true := bne_iff_ne.mpr c28; obtain rfl := Option.some.inj H; obtain ⟨aKY, aHZ, aK3, aLQ, aIS, aNG, aN6, aX5, aY8, b28, aVE, aQR, aK6, aJT, aNE, aHS, aLH, aHA, aKV, aYD, b0C, b2M, aRQ, aTN⟩ := b12_ bR
       go_wp2
       go_ret
       exact ⟨er_, bb_⟩
    ·rw [if_neg VF] at H
     have aCN : (aD == 2) = false := beq_eq_false_iff_ne.mpr VF; have aT9 : (aD != 2) = true := bne_iff_ne.mpr VF
     by_cases c34 : aD = 6
     ·rw [if_pos c34] at H
      have b6I : (aD == 6) = true := beq_iff_eq.mpr c34; have c3B : (aD != 6) = false := bne_eq_false_iff_eq.mpr c34; clear c34; replace H := bsi_ H; obtain ⟨t139, c6V, H⟩ := H
      try dsimp only at H
      have A35 := am_ c6V; clear c6V; obtain rfl := Option.some.inj H; obtain ⟨a1X, a8W, a5C, b4L, b0Y, aXO, b0V, cKB, cLA, cP2, bPF, bPD, a4A, a2S, a8L, b4S, b08, b5D, b3Y, cP1, cNJ, cE1, cCX, bJ7⟩ := b12_ bR
      try go_wp2
      replace bR := am_ (blk_drew bR.out); replace HB := am_ (below_drew1 HB.out); (refine start_ (n := 8) (S := fun w' => w'.cell? ⟨fA, 0, none⟩ = some (.int .i64 aD) ∧ w'.cell? ⟨fA, 1, none⟩ = some (.string aI) ∧ w'.cell? ⟨fA, 2, none⟩ = some (.int .i64 aJ) ∧ w'.cell? ⟨fA, 3, none⟩ = some (.int .i64 aM) ∧ w'.cell? ⟨fA, 4, none⟩ = some (.int .i64 aN) ∧ w'.cell? ⟨fA, 5, none⟩ = some (.int .i64 aQ) ∧ w'.cell? ⟨fA, 6, none⟩ = some (.string bF) ∧ w'.cell? ⟨fA, 7, none⟩ = some (.string bE) ∧ w'.cell? ⟨fA, 8, none⟩ = some (.slice cO bA.length cK) ∧ w'.cell? ⟨fA, 9, none⟩ = some (.slice dA aZ.length dB) ∧ w'.cell? ⟨fA, 10, none⟩ = some (.int .i64 aU) ∧ w'.cell? ⟨fA, 11, none⟩ = some (.slice bM aH.length bK)) (ds := []) (tf 0 8) (by kernel_rfl) rfl rfl ⟨bc_ bR 0, bc_ bR 1, bc_ bR 2, bc_ bR 3, bc_ bR 4, bc_ bR 5, bc_ bR 6, bc_ bR 7, bc_ bR 8, bc_ bR 9, bc_ bR 10, bc_ bR 11⟩ (fun hHeld => ?_); refine with_tabW spec_l04Form.b1T spec_l04Form.aJB (fun HT_ HW_ => ?_)); generalize wc.drew = w37 at bR HB hHeld ⊢; refine pl_ ?_; refine plx_ 3 (bm 8 9) ?_; refine tlx_ 1 (bm 8 11) ?_; refine plx_ 2 (tf 4 4) ?_; refine tl_ ?_; refine on1_ (i := 5) (N := some 56) (tf 6 2) (h := fun K hK => ?_); refine gs_ Tryz.func68 #[.int .i64 aD] ?_; (with_reducible refine (spec_l04Kids.calls aD t139 _ A35.out).mono ?_); rintro e w38 ⟨rfl, hb⟩; refine ⟨_, rfl, ?_⟩; replace bR := bkb_ bR hb; replace HB := bs_ hb; (try clear hb); refine hK.out _ _ ⟨bc_ bR 0, bc_ bR 1, bc_ bR 2, bc_ bR 3, bc_ bR 4, bc_ bR 5, bc_ bR 6, bc_ bR 7, bc_ bR 8, bc_ bR 9, bc_ bR 10, bc_ bR 11⟩ (fun hHeld => ?_); clear hK K; refine nm_ ?_; refine plx_ 6 (tf 7 1) ?_; refine pl_ ?_; refine done_ (done_of HT_.out (by kernel_rfl)) ?_
      try go_wp2
      go_ret
      exact ⟨er_, bb_⟩
     ·rw [if_neg c34] at H
      have b6I : (aD == 6) = false := beq_eq_false_iff_ne.mpr c34; have c3B : (aD != 6) = true := bne_iff_ne.mpr c34
      by_cases c39 : (aZ.length : Int) > 0
      ·rw [if_pos c39] at H
       have c5V := decide_eq_true c39; have c97 : decide (0 < aZ.length) = true := decide_eq_true (by omega); clear c39; obtain rfl := Option.some.inj H; obtain ⟨a6Y, a3D, a3J, a5T, a1G, a4F, a9K, aI9, aK7, aNO, aB1, a9W, a3H, a7D, a3Z, a9O, a7I, a6P, a5Q, aJ5, aLL, aM0, aCI, aAP⟩ := b12_ bR
       go_wp2
       go_ret
       exact ⟨er_, bb_⟩
      ·rw [if_neg c39] at H
       have c5V := decide_eq_false c39; have c97 : decide (0 < aZ.length) = false := decide_eq_false (by omega); clear c39
       by_cases c41 : aU = 0
       ·rw [if_pos c41] at H
        have aKD : (aU == 0) = true := beq_iff_eq.mpr c41; have aHU : (aU != 0) = false := bne_eq_false_iff_eq.mpr c41; clear c41; replace H := bsi_ H; obtain ⟨bE9, aRJ, H⟩ := H
        try dsimp only at H
        have A42 := am_ aRJ; clear aRJ; obtain rfl := Option.some.inj H; obtain ⟨a2Y, a4Z, a2J, a1O, a2U, a5P, a4W, a9Q, a8S, a3F, YS, a08, a1U, a2D, a9G, a2N, a9I, a3K, a5N, a3B, a4M, a3P, XU, Y7⟩ := b12_ bR
        try go_wp2
        replace bR := am_ (blk_drew bR.out); replace HB := am_ (below_drew1 HB.out); (refine start_ (n := 8) (S := fun w' => w'.cell? ⟨fA, 0, none⟩ = some (.int .i64 aD) ∧ w'.cell? ⟨fA, 1, none⟩ = some (.string aI) ∧ w'.cell? ⟨fA, 2, none⟩ = some (.int .i64 aJ) ∧ w'.cell? ⟨fA, 3, none⟩ = some (.int .i64 aM) ∧ w'.cell? ⟨fA, 4, none⟩ = some (.int .i64 aN) ∧ w'.cell? ⟨fA, 5, none⟩ = some (.int .i64 aQ) ∧ w'.cell? ⟨fA, 6, none⟩ = some (.string bF) ∧ w'.cell? ⟨fA, 7, none⟩ = some (.string bE) ∧ w'.cell? ⟨fA, 8, none⟩ = some (.slice cO bA.length cK) ∧ w'.cell? ⟨fA, 9, none⟩ = some (.slice dA aZ.length dB) ∧ w'.cell? ⟨fA, 10, none⟩ = some (.int .i64 aU) ∧ w'.cell? ⟨fA, 11, none⟩ = some (.slice bM aH.length bK)) (ds := []) (tf 0 8) (by kernel_rfl) rfl rfl ⟨bc_ bR 0, bc_ bR 1, bc_ bR 2, bc_ bR 3, bc_ bR 4, bc_ bR 5, bc_ bR 6, bc_ bR 7, bc_ bR 8, bc_ bR 9, bc_ bR 10, bc_ bR 11⟩ (fun hHeld => ?_); refine with_tabW spec_l04Form.b1T spec_l04Form.aJB (fun HT_ HW_ => ?_)); generalize wc.drew = w44 at bR HB hHeld ⊢; refine pl_ ?_; refine plx_ 3 (bm 8 9) ?_; refine tlx_ 1 (bm 8 11) ?_; refine plx_ 2 (tf 4 4) ?_; refine tl_ ?_; refine on1_ (i := 5) (N := some 56) (tf 6 2) (h := fun K hK => ?_); refine gs_ Tryz.func68 #[.int .i64 aD] ?_; (with_reducible refine (spec_l04Kids.calls aD bE9 _ A42.out).mono ?_); rintro e w45 ⟨rfl, hb⟩; refine ⟨_, rfl, ?_⟩; replace bR := bkb_ bR hb; replace HB := bs_ hb; (try clear hb); refine hK.out _ _ ⟨bc_ bR 0, bc_ bR 1, bc_ bR 2, bc_ bR 3, bc_ bR 4, bc_ bR 5, bc_ bR 6, bc_ bR 7, bc_ bR 8, bc_ bR 9, bc_ bR 10, bc_ bR 11⟩ (fun hHeld => ?_); clear hK K; refine nm_ ?_; refine plx_ 6 (tf 7 1) ?_; refine pl_ ?_; refine done_ (done_of HT_.out (by kernel_rfl)) ?_
        try go_wp2
        go_ret
        exact ⟨er_, bb_⟩
       ·rw [if_neg c41] at H
        have aKD : (aU == 0) = false := beq_eq_false_iff_ne.mpr c41; have aHU : (aU != 0) = true := bne_iff_ne.mpr c41; obtain rfl := Option.some.inj H; obtain ⟨a95, a4V, a5U, a1I, a1J, a8H, a5V, aHR, aIJ, aK4, aA8, aBF, a1M, a8O, a4B, a2G, a9P, a5B, a1Q, aJ4, aGM, aMF, aC1, aC3⟩ := b12_ bR
        go_wp2
        go_ret
        exact ⟨er_, bb_⟩

end Go.Proofs.YtnobhkmpkichdaaGreat.PFnExactWidth
