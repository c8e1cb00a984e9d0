import Derived.Test.YtnobhkmpkichdaaGreatPress5
import Derived.Test.YtnobhkmpkichdaaGreatPFnExactViewsOkx0
import Derived.Test.YtnobhkmpkichdaaGreatPFnExactViewsOkx6
namespace Go.Proofs.YtnobhkmpkichdaaGreat.PFnExactViewsOk
open Go.RowKit YtnobhkmpkichdaaGreatW.PrintWords YtnobhkmpkichdaaGreatW.PrintLast YtnobhkmpkichdaaGreatW.PrintMore
attribute [local go_sem] aDf aDi aEf aEe aCs aCt aDh aDg
set_option linter.unusedVariables false
set_option maxHeartbeats 8000000
set_option maxRecDepth 100000
set_option linter.unusedSimpArgs false
attribute [local go_sem high] aM0
mutual
def bE.j0 : Nat → Int → Bool → Int → Int → Int → Int → ByteArray → ByteArray → List S39 → Int → Int → Int → Int → ByteArray → ByteArray → List S39 → Option Bool
 | 0, _, _, _, _, _, _, _, _, _, _, _, _, _, _, _, _ => none
 | k + 1, x2, x46, a9C, aAA, aBM, aB6, a2A, a7K, rM, aB5, a6Y, a4O, a7R, a5C, a8B, sZ => if x46 = true then (some false) else (bE.l0 k x2 (rM.length : Int) 0 a9C aAA aBM aB6 a2A a7K rM aB5 a6Y a4O a7R a5C a8B sZ)
def bE.l0 : Nat → Int → Int → Int → Int → Int → Int → Int → ByteArray → ByteArray → List S39 → Int → Int → Int → Int → ByteArray → ByteArray → List S39 → Option Bool
 | 0, _, _, _, _, _, _, _, _, _, _, _, _, _, _, _, _, _ => none
 | k + 1, x2, x49, x50, a9C, aAA, aBM, aB6, a2A, a7K, rM, aB5, a6Y, a4O, a7R, a5C, a8B, sZ => if x50 < x49 then (if 0 ≤ x50 then (if x50 < (rM.length : Int) then (if x50 < (sZ.length : Int) then ((bE.f k ((aAh rM x50).f0) ((aAh rM x50).f1) ((aAh rM x50).f2.f0) ((aAh rM x50).f2.f1) ((aAh rM x50).f2.f2) ((aAh rM x50).f3) ((aAh rM x50).f4) ((aAh sZ x50).f0) ((aAh sZ x50).f1) ((aAh sZ x50).f2.f0) ((aAh sZ x50).f2.f1) ((aAh sZ x50).f2.f2) ((aAh sZ x50).f3) ((aAh sZ x50).f4) (wrap64 (x2 + 1))).bind fun bET => (if bET = true then (bE.l0 k x2 x49 (wrap64 (x50 + 1)) a9C aAA aBM aB6 a2A a7K rM aB5 a6Y a4O a7R a5C a8B sZ) else (some false))) else (none)) else (none)) else (none)) else (some true)
def bE.f : Nat → Int → Int → Int → Int → ByteArray → ByteArray → List S39 → Int → Int → Int → Int → ByteArray → ByteArray → List S39 → Int → Option Bool
 | 0, _, _, _, _, _, _, _, _, _, _, _, _, _, _, _ => none
 | k + 1, aA, aD, aH, aK, aJ, aI, aQ, aX, bD, bJ, bX, bY, bV, fZ, a2 => if aA = aX then (if aD = bD then (if (!(aH == bJ) || (!(aK == bX) || (!(aJ.toList == bY.toList)))) = true then (bE.j0 k a2 true aA aD aH aK aJ aI aQ aX bD bJ bX bY bV fZ) else (if aI.toList = bV.toList then (if (aQ.length : Int) = (fZ.length : Int) then (bE.j0 k a2 (decide (a2 > 40)) aA aD aH aK aJ aI aQ aX bD bJ bX bY bV fZ) else (bE.j0 k a2 true aA aD aH aK aJ aI aQ aX bD bJ bX bY bV fZ)) else (bE.j0 k a2 true aA aD aH aK aJ aI aQ aX bD bJ bX bY bV fZ))) else (bE.j0 k a2 true aA aD aH aK aJ aI aQ aX bD bJ bX bY bV fZ)) else (bE.j0 k a2 true aA aD aH aK aJ aI aQ aX bD bJ bX bY bV fZ)
end
def bE.T6 : Bool × List (List Nat × List Nat) := (true, [([], []), ([0], [0]), ([], []), ([1, 2], [1, 2]), ([3], [3]), ([], []), ([5], [5]), ([], []), ([6, 7], [6, 7]), ([8], [8]), ([], []), ([10], [10]), ([4, 9, 11], [4, 9, 11]), ([12], [12])])
def bE.B6 : List Nat := [0, 1, 0, 7, 15, 0, 32, 0, 224, 480, 0, 1024, 4095, 8191]
theorem bE.BF : aEr .any (opsOf Tryz.f115 6) = bE.T6 := by kernel_rfl
theorem bE.pY : aBu bE.T6.2 bE.B6 = true := by kernel_rfl
theorem bE.calls (k : Nat) : ∀ (aA aD : Int) (aH aK : Int) (aJ aI : ByteArray) (dY : Option Addr) (dR : Nat) (aQ : List S39) (aX bD : Int) (bJ bX : Int) (bY bV : ByteArray) (uL : Option Addr) (uV : Nat) (fZ : List S39) (a2 : Int) (r : Bool) (w : World) (gH : Kd.C jX w dY aQ.length aQ) (gI : aQ.length ≤ dR) (H5 : Kd.C jX w uL fZ.length fZ) (GZ : fZ.length ≤ uV) (h : bE.f k aA aD aH aK aJ aI aQ aX bD bJ bX bY bV fZ a2 = some r),
  Calls Tryz.prog 115 #[.agg #[.int .i64 aA, .int .i64 aD, .int .i64 aH, .int .i64 aK, .string aJ, .string aI, .slice dY aQ.length dR], .agg #[.int .i64 aX, .int .i64 bD, .int .i64 bJ, .int .i64 bX, .string bY, .string bV, .slice uL fZ.length uV], .int .i64 a2] w fun e w' => e = .returned (.bool r) ∧ Below w.heap.size w w' := by
 induction k using Nat.strongRecOn with
 | _ k ih =>
 intro aA aD aH aK aJ aI dY dR aQ aX bD bJ bX bY bV uL uV fZ a2 r w gH gI H5 GZ h
 cases k with
 | zero => exact absurd h (by simp [bE.f])
 | succ k =>
 simp only [bE.f] at h
 obtain ⟨zH, QU⟩ := aSC
 have jZ := am_ gH
 have lG := am_ gI
 clear gH gI
 have a1P := am_ H5
 have aHS := am_ GZ
 clear H5 GZ
 have HB := am_ (Below.refl w.heap.size w)
 have H : (if aA = aX then (if aD = bD then (if (!(aH == bJ) || (!(aK == bX) || (!(aJ.toList == bY.toList)))) = true then (bE.j0 k a2 true aA aD aH aK aJ aI aQ aX bD bJ bX bY bV fZ) else (if aI.toList = bV.toList then (if (aQ.length : Int) = (fZ.length : Int) then (bE.j0 k a2 (decide (a2 > 40)) aA aD aH aK aJ aI aQ aX bD bJ bX bY bV fZ) else (bE.j0 k a2 true aA aD aH aK aJ aI aQ aX bD bJ bX bY bV fZ)) else (bE.j0 k a2 true aA aD aH aK aJ aI aQ aX bD bJ bX bY bV fZ))) else (bE.j0 k a2 true aA aD aH aK aJ aI aQ aX bD bJ bX bY bV fZ)) else (bE.j0 k a2 true aA aD aH aK aJ aI aQ aX bD bJ bX bY bV fZ)) = some r := h
 clear h
 have HC4 := am_ H
 clear H
 go_enter Tryz.func115, Tryz.ntmps115
 go_upto_region 1 with (first | ((with_reducible refine aAc (N := 3) rfl ?_); (try (refine aAn (by rfl) ?_; dsimp only)); refine bx_ 3 #[.int .i64 aA, .int .i64 aD, .int .i64 aH, .int .i64 aK, .string aJ, .string aI, .slice dY aQ.length dR] 39 ?_; intro bOO hg w5 hbox hb; have oF := am_ (hbox); have d8C := gw_ hg; replace HB := bs_ hb; clear hb hbox hg) | ((with_reducible refine aAc (N := 4) rfl ?_); (try (refine aAn (by rfl) ?_; dsimp only)); refine bx_ 4 #[.int .i64 aX, .int .i64 bD, .int .i64 bJ, .int .i64 bX, .string bY, .string bV, .slice uL fZ.length uV] 39 ?_; intro bPX hg w6 hbox hb; have sF := am_ (hbox); have dAA := gw_ hg; have TK := nl_ hg oF; have TE := ng_ hg oF; replace oF := aAt oF hb; replace HB := bs_ hb; clear hb hbox hg))
 (try simp only [Act.put, List.setIfInBounds_toArray, List.set_cons_zero, List.set_cons_succ])
 go_cut [46] (fun v46 wc => ∃ (kq : Nat) (aTM : Bool), v46 = .bool aTM ∧ Aside0 (bE.j0 kq a2 aTM aA aD aH aK aJ aI aQ aX bD bJ bX bY bV fZ = some r) ∧ Aside0 (kq ≤ k) ∧ Aside0 (wc.heap[bOO]? = some (.cells #[.int .i64 aA, .int .i64 aD, .int .i64 aH, .int .i64 aK, .string aJ, .string aI, (.slice dY aQ.length dR)] 39 (0, 0))) ∧ Aside0 (wc.heap[bPX]? = some (.cells #[.int .i64 aX, .int .i64 bD, .int .i64 bJ, .int .i64 bX, .string bY, .string bV, (.slice uL fZ.length uV)] 39 (0, 0))) ∧ Aside0 (Below w.heap.size w wc))
 case first =>
  have H := HC4.out; clear HC4
  by_cases c7 : aA = aX
  ·rw [if_pos c7] at H
   have iV : (aA == aX) = true := beq_iff_eq.mpr c7; have zG : (aA != aX) = false := bne_eq_false_iff_eq.mpr c7; clear c7; (first | rw [iV] | (simp only [aCj, aCw]; rw [iV]) | skip); have gY := am_ H; clear H; have aPS := TK.out; have aSU := TE.out; obtain ⟨CX, DR, KG, LK, LJ, LV, KW, BV, D5, KN, MN, KX, LG, L6⟩ := b7_ oF; obtain ⟨uI, tF, xS, GK, FY, FZ, GJ, uA, sG, xW, FV, GA, G5, FN⟩ := b7_ sF; have H := gY.out; clear gY
   by_cases c8 : aD = bD
   ·rw [if_pos c8] at H
    have J4 : (aD == bD) = true := beq_iff_eq.mpr c8; have aHL : (aD != bD) = false := bne_eq_false_iff_eq.mpr c8; clear c8
    by_cases c9 : (!(aH == bJ) || (!(aK == bX) || (!(aJ.toList == bY.toList)))) = true
    ·rw [if_pos c9] at H
     (have xC : (!(aH == bJ) || (!(aK == bX) || (!(aJ.toList == bY.toList)))) = true := c9); clear c9; have H' := am_ H; clear H
     go_wp2
     go_meet
     case rel => exact ⟨_, (true), rs_, H', ⟨by first | omega | exact Nat.le_refl _⟩, ⟨aBx oF.out⟩, ⟨aBx sF.out⟩, ⟨bb_⟩⟩
    ·rw [if_neg c9] at H
     (have xC : (!(aH == bJ) || (!(aK == bX) || (!(aJ.toList == bY.toList)))) = false := by simpa using c9); clear c9
     by_cases c13 : aI.toList = bV.toList
     ·rw [if_pos c13] at H
      have JL : (aI.toList == bV.toList) = true := beq_iff_eq.mpr c13; have a0R : (aI.toList != bV.toList) = false := bne_eq_false_iff_eq.mpr c13; clear c13
      by_cases c14 : (aQ.length : Int) = (fZ.length : Int)
      ·rw [if_pos c14] at H
       have ZK : ((aQ.length : Int) == (fZ.length : Int)) = true := beq_iff_eq.mpr c14; have b5V : ((aQ.length : Int) != (fZ.length : Int)) = false := bne_eq_false_iff_eq.mpr c14; (have b83 : (aQ.length == fZ.length) = true := by first | simpa using c14 | (simp at c14 ⊢; omega)); clear c14; have H' := am_ H; clear H
       go_wp2
       go_meet
       case rel => exact ⟨_, (decide (a2 > 40)), rs_, H', ⟨by first | omega | exact Nat.le_refl _⟩, ⟨aBx oF.out⟩, ⟨aBx sF.out⟩, ⟨bb_⟩⟩
      ·rw [if_neg c14] at H
       have ZK : ((aQ.length : Int) == (fZ.length : Int)) = false := beq_eq_false_iff_ne.mpr c14; have b5V : ((aQ.length : Int) != (fZ.length : Int)) = true := bne_iff_ne.mpr c14; (have b83 : (aQ.length == fZ.length) = false := by first | simpa using c14 | (simp at c14 ⊢; omega)); have H' := am_ H; clear H
       go_wp2
       go_meet
       case rel => exact ⟨_, (true), rs_, H', ⟨by first | omega | exact Nat.le_refl _⟩, ⟨aBx oF.out⟩, ⟨aBx sF.out⟩, ⟨bb_⟩⟩
     ·rw [if_neg c13] at H
      have JL : (aI.toList == bV.toList) = false := beq_eq_false_iff_ne.mpr c13; have a0R : (aI.toList != bV.toList) = true := bne_iff_ne.mpr c13; have H' := am_ H; clear H
      go_wp2
      go_meet
      case rel => exact ⟨_, (true), rs_, H', ⟨by first | omega | exact Nat.le_refl _⟩, ⟨aBx oF.out⟩, ⟨aBx sF.out⟩, ⟨bb_⟩⟩
   ·rw [if_neg c8] at H
    have J4 : (aD == bD) = false := beq_eq_false_iff_ne.mpr c8; have aHL : (aD != bD) = true := bne_iff_ne.mpr c8; have H' := am_ H; clear H
    go_wp2
    go_meet
    case rel => exact ⟨_, (true), rs_, H', ⟨by first | omega | exact Nat.le_refl _⟩, ⟨aBx oF.out⟩, ⟨aBx sF.out⟩, ⟨bb_⟩⟩
  ·rw [if_neg c7] at H
   have iV : (aA == aX) = false := beq_eq_false_iff_ne.mpr c7; have zG : (aA != aX) = true := bne_iff_ne.mpr c7; (first | rw [iV] | (simp only [aCj, aCw]; rw [iV]) | skip); have H' := am_ H; clear H; have d9U := TK.out; have dB5 := TE.out; obtain ⟨RF, OZ, O8, RO, OD, QV, OH, RS, RD, P9, RI, PT, S9, RA⟩ := b7_ oF; obtain ⟨aB9, a5R, a9V, aBC, a5Y, a4D, aBH, a2N, a8K, aBF, aBG, a96, a7F, a1Y⟩ := b7_ sF
   go_wp2
   go_meet
   case rel => exact ⟨_, (true), rs_, H', ⟨by first | omega | exact Nat.le_refl _⟩, ⟨aBx oF.out⟩, ⟨aBx sF.out⟩, ⟨bb_⟩⟩
 case rest =>
  clear HC4; (try clear c1); (try clear c2); (try clear p2); (try clear c7); (try clear iV); (try clear zG); (try clear c8); (try clear J4); (try clear aHL); (try clear c9); (try clear xC); (try clear c10); (try clear c11); (try clear c13); (try clear JL); (try clear a0R); (try clear c14); (try clear ZK); (try clear b5V); (try clear b83); (try clear c15); (try clear c18); (try clear c21); (try clear c24); (try clear fV); (try clear CX DR KG LK LJ LV KW); (try clear uI tF xS GK FY FZ GJ); (try clear rH rO tQ vE vW vY wG); (try clear uE sJ vV BQ DN D7 C9); (try clear yC yG yI CK C8 DL CZ); (try clear yD xU CJ GG FM FH F4); (try clear SA QX VJ a7O a3G aBR a1Z); (try clear tC sH sQ yO yK xO yS); (try clear uG uH vI FP F9 GN FW); (try clear XE WS a7V a2C a4A a7T a8H); (try clear RF OZ O8 RO OD QV OH); (try clear aB9 a5R a9V aBC a5Y a4D aBH); (try clear BV D5 KN MN KX LG L6); (try clear uA sG xW FV GA G5 FN); (try clear rE rP sP vN vM vT wF); (try clear tL uF vS BP DU CS BU); (try clear xX xR yF BO BS CR CO); (try clear yN yL BR FT F5 FX GM); (try clear R4 R9 WE aBB aAT a6G a9O); (try clear sK sV sS xM yQ xK yM); (try clear sI tO vQ G8 GI F6 FL); (try clear UU UK a6F a3Z a5A a7P a9K); (try clear RS RD P9 RI PT S9 RA); (try clear a2N a8K aBF aBG a96 a7F a1Y); obtain ⟨kq, aTM, rfl, HA, HJ3, oF, sF, HB⟩ := hcut
  cases kq with
  | zero => exact absurd HA.out (by simp [bE.j0])
  | succ kj3 =>
   have H := HA.out; clear HA; simp only [bE.j0] at H
   by_cases c30 : aTM = true
   ·subst c30
    rw [if_pos rfl] at H; obtain rfl := Option.some.inj H
    go_wp2
    go_ret
    exact ⟨er_, bb_⟩
   ·replace c30 := Bool.eq_false_iff.mpr c30
    subst c30; replace H := aZf H; have H' := am_ H; clear H; have dBB := TK.out; have d9K := TE.out; obtain ⟨M6, ME, ML, LU, LA, KO, LX, LZ, M7, KF, MP, MM, KH, LY⟩ := b7_ oF
    go_wp2
    go_loopg [50] kj3 (fun kq v50 w' => ∃ (jB : Int), v50 = .int .i64 jB ∧ Aside0 (bE.l0 kq a2 (aQ.length : Int) jB aA aD aH aK aJ aI aQ aX bD bJ bX bY bV fZ = some r) ∧ Aside0 (kq ≤ kj3) ∧ Aside0 (w'.heap[bOO]? = some (.cells #[.int .i64 aA, .int .i64 aD, .int .i64 aH, .int .i64 aK, .string aJ, .string aI, (.slice dY aQ.length dR)] 39 (0, 0))) ∧ Aside0 (w'.heap[bPX]? = some (.cells #[.int .i64 aX, .int .i64 bD, .int .i64 bJ, .int .i64 bX, .string bY, .string bV, (.slice uL fZ.length uV)] 39 (0, 0))) ∧ Aside0 (Below w.heap.size w w'))
    case atStart => exact ⟨(0), rs_, H', ⟨Nat.le_refl _⟩, ⟨aBx oF.out⟩, ⟨aBx sF.out⟩, ⟨bb_⟩⟩
    case round =>
     clear H'; (try clear c1); (try clear c2); (try clear p2); (try clear c3); (try clear c7); (try clear iV); (try clear zG); (try clear c8); (try clear J4); (try clear aHL); (try clear c9); (try clear xC); (try clear c10); (try clear c11); (try clear c13); (try clear JL); (try clear a0R); (try clear c14); (try clear ZK); (try clear b5V); (try clear b83); (try clear c15); (try clear c18); (try clear c21); (try clear c24); (try clear fV); (try clear c30); (try clear c31); (try clear CX DR KG LK LJ LV KW); (try clear uI tF xS GK FY FZ GJ); (try clear rH rO tQ vE vW vY wG); (try clear uE sJ vV BQ DN D7 C9); (try clear yC yG yI CK C8 DL CZ); (try clear yD xU CJ GG FM FH F4); (try clear SA QX VJ a7O a3G aBR a1Z); (try clear tC sH sQ yO yK xO yS); (try clear uG uH vI FP F9 GN FW); (try clear XE WS a7V a2C a4A a7T a8H); (try clear RF OZ O8 RO OD QV OH); (try clear aB9 a5R a9V aBC a5Y a4D aBH); (try clear M6 ME ML LU LA KO LX); (try clear BV D5 KN MN KX LG L6); (try clear uA sG xW FV GA G5 FN); (try clear rE rP sP vN vM vT wF); (try clear tL uF vS BP DU CS BU); (try clear xX xR yF BO BS CR CO); (try clear yN yL BR FT F5 FX GM); (try clear R4 R9 WE aBB aAT a6G a9O); (try clear sK sV sS xM yQ xK yM); (try clear sI tO vQ G8 GI F6 FL); (try clear UU UK a6F a3Z a5A a7P a9K); (try clear RS RD P9 RI PT S9 RA)
     (try clear a2N a8K aBF aBG a96 a7F a1Y); (try clear LZ M7 KF MP MM KH LY); (try clear p2); obtain ⟨jB, rfl, HA, YB, oF, sF, HB⟩ := hrel
     cases gk with
     | zero => exact absurd HA.out (by simp [bE.l0])
     | succ k2 =>
      have H := HA.out; clear HA; simp only [bE.l0] at H
      by_cases c33 : jB < (aQ.length : Int)
      ·rw [if_pos c33] at H
       have c9J := decide_eq_true c33; clear c33
       by_cases c34 : 0 ≤ jB
       ·rw [if_pos c34] at H
        have bR4 := decide_eq_true c34; clear c34
        by_cases c35 : jB < (aQ.length : Int)
        ·rw [if_pos c35] at H
         have dBE := decide_eq_true c35; clear c35
         by_cases c36 : jB < (fZ.length : Int)
         ·rw [if_pos c36] at H
          have d7F := decide_eq_true c36; clear c36; replace H := aBp H; obtain ⟨bET, cF7, H⟩ := H
          try dsimp only at H
          have A37 := am_ cF7; clear cF7; have gY := am_ H; clear H
          try go_wp2
          replace oF := am_ (aAz oF.out); replace sF := am_ (aAz sF.out); replace HB := am_ (aAm HB.out); (have bX3 : 0 ≤ (jB : Int) := oa_); (have c0C : jB < (aQ.length : Int) := oa_); obtain ⟨d8D, bSS, bXH, d6T, a3J, a3P, a5X, aAL, a6V, aBP, a3N, aNQ, aSP⟩ := I5 jZ.out jB bX3 c0C; cases d6T; obtain ⟨bIZ, bEX, bDY, bGV, bE9, bKL, bO3⟩ := aSm HB a3J a3P a5X aAL a6V aBP a3N; have aQM := am_ aSP; have bEZ := am_ aNQ; clear aSP aNQ; replace bX3 := eq_true bX3; replace c0C := eq_true c0C; (have bUM : 0 ≤ (jB : Int) := oa_); (have bTL : jB < (fZ.length : Int) := oa_); obtain ⟨dBP, bW5, bS1, d5R, a9Q, aAG, a2S, a7X, aA8, a6J, aAJ, aL7, aNH⟩ := I5 a1P.out jB bUM bTL; cases d5R; obtain ⟨bD0, bD1, bHM, bMA, bC5, bJJ, bJY⟩ := aSm HB a9Q aAG a2S a7X aA8 a6J aAJ; have aVW := am_ aNH; have bOA := am_ aL7; clear aNH aL7; replace bUM := eq_true bUM; replace bTL := eq_true bTL; (refine st_ 14 (aXz oF (aXz sF (hc_ ((hb_ HB a3J)) (hc_ ((hb_ HB a3P)) (hc_ ((hb_ HB a5X)) (hc_ ((hb_ HB aAL)) (hc_ ((hb_ HB a6V)) (hc_ ((hb_ HB aBP)) (hc_ ((hb_ HB a3N)) (hc_ ((hb_ HB a9Q)) (hc_ ((hb_ HB aAG)) (hc_ ((hb_ HB a2S)) (hc_ ((hb_ HB a7X)) (hc_ ((hb_ HB aA8)) (hc_ ((hb_ HB a6J)) (hf_ ((hb_ HB aAJ)))))))))))))))))) (fun hHeld => ?_); refine aAv bE.BF bE.pY (fun HT_ HW_ => ?_))
          generalize wr.drew = w39 at oF sF HB aQM aVW bIZ bEX bDY bGV bE9 bKL bO3 bD0 bD1 bHM bMA bC5 bJJ bJY hHeld ⊢; refine pl_ ?_; refine aBa 2 (bm 14 5) ?_; refine aBa 5 (bm 14 37) ?_; refine aBa 7 (bm 14 165) ?_; refine aBa 10 (bm 14 1189) ?_; refine aBa 11 (bm 14 3237) ?_; refine aCx 1 (bm 14 3239) ?_; refine aBa 3 (bm 14 3247) ?_; refine aCx 4 (bm 14 3263) ?_; refine aCx 6 (bm 14 3327) ?_; refine aBa 8 (bm 14 3583) ?_; refine aCx 9 (tf 12 2) ?_; refine aCm (i := 12) (N := some 65) (tf 13 1) (h := fun K hK => ?_); refine gs_ Tryz.func115 #[.agg #[.int .i64 ((aAh aQ jB).f0), .int .i64 ((aAh aQ jB).f1), .int .i64 ((aAh aQ jB).f2.f0), .int .i64 ((aAh aQ jB).f2.f1), .string ((aAh aQ jB).f2.f2), .string ((aAh aQ jB).f3), .slice bSS ((aAh aQ jB).f4).length bXH], .agg #[.int .i64 ((aAh fZ jB).f0), .int .i64 ((aAh fZ jB).f1), .int .i64 ((aAh fZ jB).f2.f0), .int .i64 ((aAh fZ jB).f2.f1), .string ((aAh fZ jB).f2.f2), .string ((aAh fZ jB).f3), .slice bW5 ((aAh fZ jB).f4).length bS1], .int .i64 (wrap64 (a2 + 1))] ?_; (with_reducible refine (ih k2 (by have := HJ3.out; have := YB.out; omega) ((aAh aQ jB).f0) ((aAh aQ jB).f1) ((aAh aQ jB).f2.f0) ((aAh aQ jB).f2.f1) ((aAh aQ jB).f2.f2) ((aAh aQ jB).f3) _ _ ((aAh aQ jB).f4) ((aAh fZ jB).f0) ((aAh fZ jB).f1) ((aAh fZ jB).f2.f0) ((aAh fZ jB).f2.f1) ((aAh fZ jB).f2.f2) ((aAh fZ jB).f3) _ _ ((aAh fZ jB).f4) (wrap64 (a2 + 1)) bET _ ?fM ?fO ?iN ?j3 A37.out).mono ?_); (case fM => exact cb_ aQM HB); (case fO => exact bEZ.out); (case iN => exact cb_ aVW HB); (case j3 => exact bOA.out); rintro e w40 ⟨rfl, hb⟩; refine ⟨_, rfl, ?_⟩; replace oF := aAt oF hb; replace sF := aAt sF hb; replace HB := bs_ hb; (try clear hb); refine hK.out _ _ (aXz oF (aXz sF (hc_ (hb_ HB a3J) (hc_ (hb_ HB a3P) (hc_ (hb_ HB a5X) (hc_ (hb_ HB aAL) (hc_ (hb_ HB a6V) (hc_ (hb_ HB aBP) (hc_ (hb_ HB a3N) (hc_ (hb_ HB a9Q) (hc_ (hb_ HB aAG) (hc_ (hb_ HB a2S) (hc_ (hb_ HB a7X) (hc_ (hb_ HB aA8) (hc_ (hb_ HB a6J) (hf_ (hb_ HB aAJ))))))))))))))))) (fun hHeld => ?_); clear hK K; refine nm_ ?_; refine aBa 13 (tf 14 0) ?_; have H := gY.out; clear gY
          by_cases c38 : bET = true
          ·subst c38
           rw [if_pos rfl] at H; have H' := am_ H; clear H; refine dn_ ?_
           try go_wp2
           go_roundg k2
           case measure => have := HJ3.out; have := YB.out; omega
           case rel => exact ⟨(wrap64 (jB + 1)), rs_, H', ⟨by have := HJ3.out; have := YB.out; omega⟩, ⟨aBx oF.out⟩, ⟨aBx sF.out⟩, ⟨bb_⟩⟩
          ·replace c38 := Bool.eq_false_iff.mpr c38
           subst c38; replace H := aZf H; obtain rfl := Option.some.inj H; refine dn_ ?_
           try go_wp2
           go_ret
           exact ⟨er_, bb_⟩
         ·rw [if_neg c36] at H
          exact nn_ H
        ·rw [if_neg c35] at H
         exact nn_ H
       ·rw [if_neg c34] at H
        exact nn_ H
      ·rw [if_neg c33] at H
       have c9J := decide_eq_false c33; clear c33; obtain rfl := Option.some.inj H
       go_wp2
       go_ret
       exact ⟨er_, bb_⟩
def fA.f (k : Nat) (aA aD : Int) (aH aK : Int) (aJ aI : ByteArray) (aQ : List S39) (aX bD : Int) (bJ bX : Int) (bY bV : ByteArray) (fZ : List S39) : Option Bool := (bE.f k aA aD aH aK aJ aI aQ aX bD bJ bX bY bV fZ 0).bind fun bGX => (some bGX)
theorem fA.calls (k : Nat) (aA aD : Int) (aH aK : Int) (aJ aI : ByteArray) (dY : Option Addr) (dR : Nat) (aQ : List S39) (aX bD : Int) (bJ bX : Int) (bY bV : ByteArray) (uL : Option Addr) (uV : Nat) (fZ : List S39) (r : Bool) (w : World) (gH : Kd.C jX w dY aQ.length aQ) (gI : aQ.length ≤ dR) (H5 : Kd.C jX w uL fZ.length fZ) (GZ : fZ.length ≤ uV) (h : fA.f k aA aD aH aK aJ aI aQ aX bD bJ bX bY bV fZ = some r) :
  Calls Tryz.prog 95 #[.agg #[.int .i64 aA, .int .i64 aD, .int .i64 aH, .int .i64 aK, .string aJ, .string aI, .slice dY aQ.length dR], .agg #[.int .i64 aX, .int .i64 bD, .int .i64 bJ, .int .i64 bX, .string bY, .string bV, .slice uL fZ.length uV]] w fun e w' => e = .returned (.bool r) ∧ Below w.heap.size w w' := by
 have zH := Tryz.underlying39
 have jZ := am_ gH
 have lG := am_ gI
 clear gH gI
 have a1P := am_ H5
 have aHS := am_ GZ
 clear H5 GZ
 have HB := am_ (Below.refl w.heap.size w)
 have H : ((bE.f k aA aD aH aK aJ aI aQ aX bD bJ bX bY bV fZ 0).bind fun bGX => (some bGX)) = some r := h
 clear h
 replace H := aBp H
 obtain ⟨bGX, wN, H⟩ := H
 try dsimp only at H
 have A3 := am_ wN
 clear wN
 obtain rfl := Option.some.inj H
 go_enter Tryz.func95, Tryz.ntmps95
 go_wp2_with (first | ((with_reducible refine aAc (N := 2) rfl ?_); refine bx_ 2 #[.int .i64 aA, .int .i64 aD, .int .i64 aH, .int .i64 aK, .string aJ, .string aI, .slice dY aQ.length dR] 39 ?_; intro d8Y hg w4 hbox hb; have YY := am_ (hbox); have dAX := gw_ hg; replace HB := bs_ hb; clear hb hbox hg) | ((with_reducible refine aAc (N := 3) rfl ?_); refine bx_ 3 #[.int .i64 aX, .int .i64 bD, .int .i64 bJ, .int .i64 bX, .string bY, .string bV, .slice uL fZ.length uV] 39 ?_; intro dBJ hg w5 hbox hb; have b0J := am_ (hbox); have d7N := gw_ hg; have aYC := nl_ hg YY; have aYE := ng_ hg YY; replace YY := aAt YY hb; replace HB := bs_ hb; clear hb hbox hg; have bIT := aYC.out; have bBM := aYE.out; obtain ⟨uN, uU, FR, aBK, a8L, a9S, a6E, uY, uP, FJ, aAQ, aAS, a7N, a2Z⟩ := b7_ YY; obtain ⟨qI, qG, xA, AQ, zB, zZ, AC, qF, qH, xD, zU, yU, zQ, zI⟩ := b7_ b0J) | ((with_reducible refine aAa (f := 115) rfl ?_); refine aBh (some 7) Tryz.func115 #[.agg #[.int .i64 aA, .int .i64 aD, .int .i64 aH, .int .i64 aK, .string aJ, .string aI, .slice dY aQ.length dR], .agg #[.int .i64 aX, .int .i64 bD, .int .i64 bJ, .int .i64 bX, .string bY, .string bV, .slice uL fZ.length uV], .int .i64 0] ?_; (with_reducible refine (bE.calls _ _ _ _ _ _ _ _ _ _ _ _ _ _ _ _ _ _ _ _ _ _ (cb_ jZ HB) lG.out (cb_ a1P HB) aHS.out A3.out).mono ?_); rintro e w9 ⟨rfl, hb⟩; refine ⟨_, rfl, ?_⟩; replace YY := aAt YY hb; replace b0J := aAt b0J hb; replace HB := bs_ hb; (try clear hb)))
 go_ret
 exact ⟨er_, bb_⟩

def bO.f (k : Nat) (aA : Int) (aD : ByteArray) (aH aK : Int) (aJ aI : Int) (bC bB : ByteArray) (bG aV : List S39) (aW : Int) (aM : List S42) (a1 a2 : Bool) (a3 a4 : Bool) : Option Bool := if a1 = true then (if aD.toList = ([] : List UInt8) then (if a2 = true then ((fA.f k aH aK aJ aI bC bB bG 0 0 0 0 (⟨#[]⟩ : ByteArray) (⟨#[]⟩ : ByteArray) ([] : List S39)).bind fun b5R => (if b5R = true then (if a3 = true then (if (aV.length : Int) > 0 then (some (!true)) else (if a4 = true then (some (!(aW != 0))) else (some (!false)))) else (if a4 = true then (some (!(aW != 0))) else (some (!false)))) else (some (!true)))) else (if a3 = true then (if (aV.length : Int) > 0 then (some (!true)) else (if a4 = true then (some (!(aW != 0))) else (some (!false)))) else (if a4 = true then (some (!(aW != 0))) else (some (!false))))) else (some (!true))) else (if a2 = true then ((fA.f k aH aK aJ aI bC bB bG 0 0 0 0 (⟨#[]⟩ : ByteArray) (⟨#[]⟩ : ByteArray) ([] : List S39)).bind fun b7I => (if b7I = true then (if a3 = true then (if (aV.length : Int) > 0 then (some (!true)) else (if a4 = true then (some (!(aW != 0))) else (some (!false)))) else (if a4 = true then (some (!(aW != 0))) else (some (!false)))) else (some (!true)))) else (if a3 = true then (if (aV.length : Int) > 0 then (some (!true)) else (if a4 = true then (some (!(aW != 0))) else (some (!false)))) else (if a4 = true then (some (!(aW != 0))) else (some (!false)))))
theorem bO.calls (k : Nat) (aA : Int) (aD : ByteArray) (aH aK : Int) (aJ aI : Int) (bC bB : ByteArray) (dN : Option Addr) (dQ : Nat) (bG : List S39) (bZ : Option Addr) (cB : Nat) (aV : List S39) (aW : Int) (bP : Option Addr) (bM : Nat) (aM : List S42) (a1 a2 : Bool) (a3 a4 r : Bool) (w : World) (mG : Kd.C jX w dN bG.length bG) (lV : bG.length ≤ dQ) (jG : Kd.C jX w bZ aV.length aV) (jH : aV.length ≤ cB) (jS : Kd.C E5 w bP aM.length aM) (jN : aM.length ≤ bM) (h : bO.f k aA aD aH aK aJ aI bC bB bG aV aW aM a1 a2 a3 a4 = some r) :
  Calls Tryz.prog 72 #[.agg #[.int .i64 aA, .string aD, .int .i64 aH, .int .i64 aK, .int .i64 aJ, .int .i64 aI, .string bC, .string bB, .slice dN bG.length dQ, .slice bZ aV.length cB, .int .i64 aW, .slice bP aM.length bM], .bool a1, .bool a2, .bool a3, .bool a4] w fun e w' => e = .returned (.bool r) ∧ Below w.heap.size w w' := by
 obtain ⟨MW, zH⟩ := b0Y
 have iG := am_ mG
 have iD := am_ lV
 clear mG lV
 have iR := am_ jG
 have iZ := am_ jH
 clear jG jH
 have jE := am_ jS
 have jR := am_ jN
 clear jS jN
 have HB := am_ (Below.refl w.heap.size w)
 have H : (if a1 = true then (if aD.toList = ([] : List UInt8) then (if a2 = true then ((fA.f k aH aK aJ aI bC bB bG 0 0 0 0 (⟨#[]⟩ : ByteArray) (⟨#[]⟩ : ByteArray) ([] : List S39)).bind fun b5R => (if b5R = true then (if a3 = true then (if (aV.length : Int) > 0 then (some (!true)) else (if a4 = true then (some (!(aW != 0))) else (some (!false)))) else (if a4 = true then (some (!(aW != 0))) else (some (!false)))) else (some (!true)))) else (if a3 = true then (if (aV.length : Int) > 0 then (some (!true)) else (if a4 = true then (some (!(aW != 0))) else (some (!false)))) else (if a4 = true then (some (!(aW != 0))) else (some (!false))))) else (some (!true))) else (if a2 = true then ((fA.f k aH aK aJ aI bC bB bG 0 0 0 0 (⟨#[]⟩ : ByteArray) (⟨#[]⟩ : ByteArray) ([] : List S39)).bind fun b7I => (if b7I = true then (if a3 = true then (if (aV.length : Int) > 0 then (some (!true)) else (if a4 = true then (some (!(aW != 0))) else (some (!false)))) else (if a4 = true then (some (!(aW != 0))) else (some (!false)))) else (some (!true)))) else (if a3 = true then (if (aV.length : Int) > 0 then (some (!true)) else (if a4 = true then (some (!(aW != 0))) else (some (!false)))) else (if a4 = true then (some (!(aW != 0))) else (some (!false)))))) = some r := h
 clear h
 by_cases c6 : a1 = true
 ·subst c6
  rw [if_pos rfl] at H
  by_cases c7 : aD.toList = ([] : List UInt8)
  ·rw [if_pos c7] at H
   have iV : (aD.toList == ([] : List UInt8)) = true := beq_iff_eq.mpr c7; have zG : (aD.toList != ([] : List UInt8)) = false := bne_eq_false_iff_eq.mpr c7; clear c7
   by_cases c8 : a2 = true
   ·subst c8
    rw [if_pos rfl] at H; replace H := aBp H; obtain ⟨b5R, A90, H⟩ := H
    try dsimp only at H
    have A9 := am_ A90; clear A90
    by_cases c10 : b5R = true
    ·subst c10
     rw [if_pos rfl] at H
     by_cases c11 : a3 = true
     ·subst c11
      rw [if_pos rfl] at H
      by_cases c12 : (aV.length : Int) > 0
      ·rw [if_pos c12] at H
       have uK := decide_eq_true c12; have aS4 : decide (0 < aV.length) = true := decide_eq_true (by omega); clear c12; obtain rfl := Option.some.inj H
       go_enter Tryz.func72, Tryz.ntmps72
       go_wp2_with (first | ((with_reducible refine aAc (N := 5) rfl ?_); (try (refine aAn (by rfl) ?_; dsimp only)); refine bx_ 5 #[.int .i64 aA, .string aD, .int .i64 aH, .int .i64 aK, .int .i64 aJ, .int .i64 aI, .string bC, .string bB, .slice dN bG.length dQ, .slice bZ aV.length cB, .int .i64 aW, .slice bP aM.length bM] 42 ?_; intro qA hg ZO hbox hb; have dI := am_ (hbox); have qB := gw_ hg; replace HB := bs_ hb; clear hb hbox hg; obtain ⟨nZ, nV, rD, vX, vP, vZ, wB, D9, CG, BL, wS, wM, oG, nW, rA, wH, vJ, vG, vC, CL, BI, DJ, wX, wO⟩ := aBw dI) | (go_at_call 95; (refine (fA.calls k aH aK aJ aI bC bB _ _ bG 0 0 0 0 (⟨#[]⟩ : ByteArray) (⟨#[]⟩ : ByteArray) _ _ ([] : List S39) true _ ?fM ?fO ?iN ?j3 A9.out).mono ?_); (case fM => exact cb_ iG HB); (case fO => exact iD.out); (case iN => exact Kd.aHw _ _); (case j3 => exact Nat.le_refl _); rintro e w15 ⟨rfl, hb⟩; have n0_ := aAt dI hb; have n1_ := bs_ hb; clear dI; clear HB; have dI := n0_; have HB := n1_; clear n0_ n1_; (try clear hb); obtain ⟨rH, rO, tQ, vE, vW, vY, wG, LP, LW, MQ, EG, ES, rE, rP, sP, vN, vM, vT, wF, KE, L8, KQ, E9, EQ⟩ := aBw dI))
       go_ret
       exact ⟨er_, bb_⟩
      ·rw [if_neg c12] at H
       have uK := decide_eq_false c12; have aS4 : decide (0 < aV.length) = false := decide_eq_false (by omega); clear c12
       by_cases c17 : a4 = true
       ·subst c17
        rw [if_pos rfl] at H; obtain rfl := Option.some.inj H
        go_enter Tryz.func72, Tryz.ntmps72
        go_wp2_with (first | ((with_reducible refine aAc (N := 5) rfl ?_); (try (refine aAn (by rfl) ?_; dsimp only)); refine bx_ 5 #[.int .i64 aA, .string aD, .int .i64 aH, .int .i64 aK, .int .i64 aJ, .int .i64 aI, .string bC, .string bB, .slice dN bG.length dQ, .slice bZ aV.length cB, .int .i64 aW, .slice bP aM.length bM] 42 ?_; intro qA hg w18 hbox hb; have dI := am_ (hbox); have qB := gw_ hg; replace HB := bs_ hb; clear hb hbox hg; obtain ⟨yC, yG, yI, CK, C8, DL, CZ, QE, PO, R8, IL, J2, xX, xR, yF, BO, BS, CR, CO, O3, PP, PV, JD, J5⟩ := aBw dI) | (go_at_call 95; (refine (fA.calls k aH aK aJ aI bC bB _ _ bG 0 0 0 0 (⟨#[]⟩ : ByteArray) (⟨#[]⟩ : ByteArray) _ _ ([] : List S39) true _ ?fM ?fO ?iN ?j3 A9.out).mono ?_); (case fM => exact cb_ iG HB); (case fO => exact iD.out); (case iN => exact Kd.aHw _ _); (case j3 => exact Nat.le_refl _); rintro e w20 ⟨rfl, hb⟩; have n0_ := aAt dI hb; have n1_ := bs_ hb; clear dI; clear HB; have dI := n0_; have HB := n1_; clear n0_ n1_; (try clear hb); obtain ⟨uD, uC, y7, LQ, LC, KY, MF, Q9, OY, O5, IB, I9, tZ, sU, yA, KV, MJ, M4, KS, OU, R6, NZ, JS, JP⟩ := aBw dI))
        go_ret
        exact ⟨er_, bb_⟩
       ·replace c17 := Bool.eq_false_iff.mpr c17
        subst c17; replace H := aZf H; obtain rfl := Option.some.inj H
        go_enter Tryz.func72, Tryz.ntmps72
        go_wp2_with (first | ((with_reducible refine aAc (N := 5) rfl ?_); (try (refine aAn (by rfl) ?_; dsimp only)); refine bx_ 5 #[.int .i64 aA, .string aD, .int .i64 aH, .int .i64 aK, .int .i64 aJ, .int .i64 aI, .string bC, .string bB, .slice dN bG.length dQ, .slice bZ aV.length cB, .int .i64 aW, .slice bP aM.length bM] 42 ?_; intro qA hg w22 hbox hb; have dI := am_ (hbox); have qB := gw_ hg; replace HB := bs_ hb; clear hb hbox hg; obtain ⟨tC, sH, sQ, yO, yK, xO, yS, WX, WK, X0, OO, PG, sK, sV, sS, xM, yQ, xK, yM, WT, X4, WC, QD, OM⟩ := aBw dI) | (go_at_call 95; (refine (fA.calls k aH aK aJ aI bC bB _ _ bG 0 0 0 0 (⟨#[]⟩ : ByteArray) (⟨#[]⟩ : ByteArray) _ _ ([] : List S39) true _ ?fM ?fO ?iN ?j3 A9.out).mono ?_); (case fM => exact cb_ iG HB); (case fO => exact iD.out); (case iN => exact Kd.aHw _ _); (case j3 => exact Nat.le_refl _); rintro e w24 ⟨rfl, hb⟩; have n0_ := aAt dI hb; have n1_ := bs_ hb; clear dI; clear HB; have dI := n0_; have HB := n1_; clear n0_ n1_; (try clear hb); obtain ⟨uG, uH, vI, FP, F9, GN, FW, aLO, aR6, aL2, aDA, aGK, sI, tO, vQ, G8, GI, F6, FL, aOG, aL6, aOE, aEN, aCX⟩ := aBw dI))
        go_ret
        exact ⟨er_, bb_⟩
     ·replace c11 := Bool.eq_false_iff.mpr c11
      subst c11; replace H := aZf H
      by_cases c26 : a4 = true
      ·subst c26
       rw [if_pos rfl] at H; obtain rfl := Option.some.inj H
       go_enter Tryz.func72, Tryz.ntmps72
       go_wp2_with (first | ((with_reducible refine aAc (N := 5) rfl ?_); (try (refine aAn (by rfl) ?_; dsimp only)); refine bx_ 5 #[.int .i64 aA, .string aD, .int .i64 aH, .int .i64 aK, .int .i64 aJ, .int .i64 aI, .string bC, .string bB, .slice dN bG.length dQ, .slice bZ aV.length cB, .int .i64 aW, .slice bP aM.length bM] 42 ?_; intro qA hg w27 hbox hb; have dI := am_ (hbox); have qB := gw_ hg; replace HB := bs_ hb; clear hb hbox hg; obtain ⟨RF, OZ, O8, RO, OD, QV, OH, aKF, aMB, aL9, aIM, aFS, RS, RD, P9, RI, PT, S9, RA, aP0, aOX, aOO, aEW, aD9⟩ := aBw dI) | (go_at_call 95; (refine (fA.calls k aH aK aJ aI bC bB _ _ bG 0 0 0 0 (⟨#[]⟩ : ByteArray) (⟨#[]⟩ : ByteArray) _ _ ([] : List S39) true _ ?fM ?fO ?iN ?j3 A9.out).mono ?_); (case fM => exact cb_ iG HB); (case fO => exact iD.out); (case iN => exact Kd.aHw _ _); (case j3 => exact Nat.le_refl _); rintro e w29 ⟨rfl, hb⟩; have n0_ := aAt dI hb; have n1_ := bs_ hb; clear dI; clear HB; have dI := n0_; have HB := n1_; clear n0_ n1_; (try clear hb); obtain ⟨UO, UL, VH, UX, VU, VG, VK, WW, UT, VB, Q0, RU, XG, UQ, WP, XH, VF, WO, UN, UW, VS, VX, R7, PZ⟩ := aBw dI))
       go_ret
       exact ⟨er_, bb_⟩
      ·replace c26 := Bool.eq_false_iff.mpr c26
       subst c26; replace H := aZf H; obtain rfl := Option.some.inj H
       go_enter Tryz.func72, Tryz.ntmps72
       go_wp2_with (first | ((with_reducible refine aAc (N := 5) rfl ?_); (try (refine aAn (by rfl) ?_; dsimp only)); refine bx_ 5 #[.int .i64 aA, .string aD, .int .i64 aH, .int .i64 aK, .int .i64 aJ, .int .i64 aI, .string bC, .string bB, .slice dN bG.length dQ, .slice bZ aV.length cB, .int .i64 aW, .slice bP aM.length bM] 42 ?_; intro qA hg w31 hbox hb; have dI := am_ (hbox); have qB := gw_ hg; replace HB := bs_ hb; clear hb hbox hg; obtain ⟨M6, ME, ML, LU, LA, KO, LX, a8M, aBO, a9M, Y6, YF, LZ, M7, KF, MP, MM, KH, LY, a5W, a4Q, a6H, ZN, ZA⟩ := aBw dI) | (go_at_call 95; (refine (fA.calls k aH aK aJ aI bC bB _ _ bG 0 0 0 0 (⟨#[]⟩ : ByteArray) (⟨#[]⟩ : ByteArray) _ _ ([] : List S39) true _ ?fM ?fO ?iN ?j3 A9.out).mono ?_); (case fM => exact cb_ iG HB); (case fO => exact iD.out); (case iN => exact Kd.aHw _ _); (case j3 => exact Nat.le_refl _); rintro e w33 ⟨rfl, hb⟩; have n0_ := aAt dI hb; have n1_ := bs_ hb; clear dI; clear HB; have dI := n0_; have HB := n1_; clear n0_ n1_; (try clear hb)))
       go_ret
       exact ⟨er_, bb_⟩
    ·replace c10 := Bool.eq_false_iff.mpr c10
     subst c10; replace H := aZf H; obtain rfl := Option.some.inj H
     go_enter Tryz.func72, Tryz.ntmps72
     go_wp2_with (first | ((with_reducible refine aAc (N := 5) rfl ?_); (try (refine aAn (by rfl) ?_; dsimp only)); refine bx_ 5 #[.int .i64 aA, .string aD, .int .i64 aH, .int .i64 aK, .int .i64 aJ, .int .i64 aI, .string bC, .string bB, .slice dN bG.length dQ, .slice bZ aV.length cB, .int .i64 aW, .slice bP aM.length bM] 42 ?_; intro qA hg w34 hbox hb; have dI := am_ (hbox); have qB := gw_ hg; replace HB := bs_ hb; clear hb hbox hg; obtain ⟨aA5, a8P, a4R, a4H, aBU, a7S, aAY, bDD, bNB, bBL, b8E, b49, a7M, a7J, a3V, a5V, a90, a3S, a7L, bJS, bF5, bDG, b2I, b7T⟩ := aBw dI) | (go_at_call 95; (refine (fA.calls k aH aK aJ aI bC bB _ _ bG 0 0 0 0 (⟨#[]⟩ : ByteArray) (⟨#[]⟩ : ByteArray) _ _ ([] : List S39) false _ ?fM ?fO ?iN ?j3 A9.out).mono ?_); (case fM => exact cb_ iG HB); (case fO => exact iD.out); (case iN => exact Kd.aHw _ _); (case j3 => exact Nat.le_refl _); rintro e w36 ⟨rfl, hb⟩; have n0_ := aAt dI hb; have n1_ := bs_ hb; clear dI; clear HB; have dI := n0_; have HB := n1_; clear n0_ n1_; (try clear hb)))
     go_ret
     exact ⟨er_, bb_⟩
   ·replace c8 := Bool.eq_false_iff.mpr c8
    subst c8; replace H := aZf H
    by_cases c37 : a3 = true
    ·subst c37
     rw [if_pos rfl] at H
     by_cases c38 : (aV.length : Int) > 0
     ·rw [if_pos c38] at H
      have cJU := decide_eq_true c38; have c4T : decide (0 < aV.length) = true := decide_eq_true (by omega); clear c38; obtain rfl := Option.some.inj H
      go_enter Tryz.func72, Tryz.ntmps72
      go_wp2_with (first | ((with_reducible refine aAc (N := 5) rfl ?_); (try (refine aAn (by rfl) ?_; dsimp only)); refine bx_ 5 #[.int .i64 aA, .string aD, .int .i64 aH, .int .i64 aK, .int .i64 aJ, .int .i64 aI, .string bC, .string bB, .slice dN bG.length dQ, .slice bZ aV.length cB, .int .i64 aW, .slice bP aM.length bM] 42 ?_; intro qA hg w39 hbox hb; have dI := am_ (hbox); have qB := gw_ hg; replace HB := bs_ hb; clear hb hbox hg; obtain ⟨a7U, aBS, aAZ, a8Z, aBE, a7D, a7H, aXC, aTT, aO8, aIB, aET, a6O, a4K, a5P, a4X, a5Z, a4I, aBQ, aVM, aN8, aWT, aF8, aES⟩ := aBw dI))
      go_ret
      exact ⟨er_, bb_⟩
     ·rw [if_neg c38] at H
      have cJU := decide_eq_false c38; have c4T : decide (0 < aV.length) = false := decide_eq_false (by omega); clear c38
      by_cases c41 : a4 = true
      ·subst c41
       rw [if_pos rfl] at H; obtain rfl := Option.some.inj H
       go_enter Tryz.func72, Tryz.ntmps72
       go_wp2_with (first | ((with_reducible refine aAc (N := 5) rfl ?_); (try (refine aAn (by rfl) ?_; dsimp only)); refine bx_ 5 #[.int .i64 aA, .string aD, .int .i64 aH, .int .i64 aK, .int .i64 aJ, .int .i64 aI, .string bC, .string bB, .slice dN bG.length dQ, .slice bZ aV.length cB, .int .i64 aW, .slice bP aM.length bM] 42 ?_; intro qA hg w42 hbox hb; have dI := am_ (hbox); have qB := gw_ hg; replace HB := bs_ hb; clear hb hbox hg; obtain ⟨aR3, aOY, aVA, aNC, aWU, aU7, aW4, aXS, aT9, aTD, aG7, aF7, aVS, aW2, aXY, aQT, aRP, aTV, aS9, aXP, aOP, aX6, aH3, aDN⟩ := aBw dI))
       go_ret
       exact ⟨er_, bb_⟩
      ·replace c41 := Bool.eq_false_iff.mpr c41
       subst c41; replace H := aZf H; obtain rfl := Option.some.inj H
       go_enter Tryz.func72, Tryz.ntmps72
       go_wp2_with (first | ((with_reducible refine aAc (N := 5) rfl ?_); (try (refine aAn (by rfl) ?_; dsimp only)); refine bx_ 5 #[.int .i64 aA, .string aD, .int .i64 aH, .int .i64 aK, .int .i64 aJ, .int .i64 aI, .string bC, .string bB, .slice dN bG.length dQ, .slice bZ aV.length cB, .int .i64 aW, .slice bP aM.length bM] 42 ?_; intro qA hg w44 hbox hb; have dI := am_ (hbox); have qB := gw_ hg; replace HB := bs_ hb; clear hb hbox hg; obtain ⟨aMC, aVU, aR1, aSF, aRX, aLH, aPP, bGF, bDE, bBQ, b85, b5O, aND, aPU, aVN, aNI, aRM, aM2, aRE, bDS, bGH, bFM, bAL, b4D⟩ := aBw dI))
       go_ret
       exact ⟨er_, bb_⟩
    ·replace c37 := Bool.eq_false_iff.mpr c37
     subst c37; replace H := aZf H
     by_cases c46 : a4 = true
     ·subst c46
      rw [if_pos rfl] at H; obtain rfl := Option.some.inj H
      go_enter Tryz.func72, Tryz.ntmps72
      go_wp2_with (first | ((with_reducible refine aAc (N := 5) rfl ?_); (try (refine aAn (by rfl) ?_; dsimp only)); refine bx_ 5 #[.int .i64 aA, .string aD, .int .i64 aH, .int .i64 aK, .int .i64 aJ, .int .i64 aI, .string bC, .string bB, .slice dN bG.length dQ, .slice bZ aV.length cB, .int .i64 aW, .slice bP aM.length bM] 42 ?_; intro qA hg w47 hbox hb; have dI := am_ (hbox); have qB := gw_ hg; replace HB := bs_ hb; clear hb hbox hg; obtain ⟨bF6, bE7, bJP, bH3, bKI, bBC, bK3, cQT, cTH, cXN, cLY, c8H, bCX, bJ4, bNS, bB6, bGQ, bMN, bJE, cNW, d0H, cTQ, cCO, cLR⟩ := aBw dI))
      go_ret
      exact ⟨er_, bb_⟩
     ·replace c46 := Bool.eq_false_iff.mpr c46
      subst c46; replace H := aZf H; obtain rfl := Option.some.inj H
      go_enter Tryz.func72, Tryz.ntmps72
      go_wp2_with (first | ((with_reducible refine aAc (N := 5) rfl ?_); (try (refine aAn (by rfl) ?_; dsimp only)); refine bx_ 5 #[.int .i64 aA, .string aD, .int .i64 aH, .int .i64 aK, .int .i64 aJ, .int .i64 aI, .string bC, .string bB, .slice dN bG.length dQ, .slice bZ aV.length cB, .int .i64 aW, .slice bP aM.length bM] 42 ?_; intro qA hg w49 hbox hb; have dI := am_ (hbox); have qB := gw_ hg; replace HB := bs_ hb; clear hb hbox hg; obtain ⟨aQJ, aR2, aW0, aV1, aL0, aRR, aSL, bKK, bLF, bFL, b2F, b33, aXL, aLV, aT1, aX3, aPF, aXU, aXZ, bFC, bI6, bBN, b3E, b7N⟩ := aBw dI))
      go_ret
      exact ⟨er_, bb_⟩
  ·rw [if_neg c7] at H
   have iV : (aD.toList == ([] : List UInt8)) = false := beq_eq_false_iff_ne.mpr c7; have zG : (aD.toList != ([] : List UInt8)) = true := bne_iff_ne.mpr c7; obtain rfl := Option.some.inj H
   go_enter Tryz.func72, Tryz.ntmps72
   go_wp2_with (first | ((with_reducible refine aAc (N := 5) rfl ?_); (try (refine aAn (by rfl) ?_; dsimp only)); refine bx_ 5 #[.int .i64 aA, .string aD, .int .i64 aH, .int .i64 aK, .int .i64 aJ, .int .i64 aI, .string bC, .string bB, .slice dN bG.length dQ, .slice bZ aV.length cB, .int .i64 aW, .slice bP aM.length bM] 42 ?_; intro qA hg w51 hbox hb; have dI := am_ (hbox); have qB := gw_ hg; replace HB := bs_ hb; clear hb hbox hg; obtain ⟨cPK, cTM, cZC, cQ0, cZF, cP8, cNP, cMZ, cX0, cP6, cGP, c9K, cU7, cSJ, cZZ, cZK, cOH, d1E, cQA, cNQ, cV3, cQY, c9V, cLE⟩ := aBw dI))
   go_ret
   exact ⟨er_, bb_⟩
 ·replace c6 := Bool.eq_false_iff.mpr c6
  subst c6; replace H := aZf H
  by_cases c53 : a2 = true
  ·subst c53
   rw [if_pos rfl] at H; replace H := aBp H; obtain ⟨b7I, b9L, H⟩ := H
   try dsimp only at H
   have A54 := am_ b9L; clear b9L
   by_cases c55 : b7I = true
   ·subst c55
    rw [if_pos rfl] at H
    by_cases c56 : a3 = true
    ·subst c56
     rw [if_pos rfl] at H
     by_cases c57 : (aV.length : Int) > 0
     ·rw [if_pos c57] at H
      have b2L := decide_eq_true c57; have b24 : decide (0 < aV.length) = true := decide_eq_true (by omega); clear c57; obtain rfl := Option.some.inj H
      go_enter Tryz.func72, Tryz.ntmps72
      go_wp2_with (first | ((with_reducible refine aAc (N := 5) rfl ?_); (try (refine aAn (by rfl) ?_; dsimp only)); refine bx_ 5 #[.int .i64 aA, .string aD, .int .i64 aH, .int .i64 aK, .int .i64 aJ, .int .i64 aI, .string bC, .string bB, .slice dN bG.length dQ, .slice bZ aV.length cB, .int .i64 aW, .slice bP aM.length bM] 42 ?_; intro qA hg w58 hbox hb; have dI := am_ (hbox); have qB := gw_ hg; replace HB := bs_ hb; clear hb hbox hg; obtain ⟨aM6, aUR, aR0, aSM, aQR, aXT, aLR, bBW, bIR, bB1, b7Z, b2X, aN3, aLJ, aUX, aQG, aPZ, aLM, aQO, bC3, bEO, bNP, b9C, b6I⟩ := aBw dI) | (go_at_call 95; (refine (fA.calls k aH aK aJ aI bC bB _ _ bG 0 0 0 0 (⟨#[]⟩ : ByteArray) (⟨#[]⟩ : ByteArray) _ _ ([] : List S39) true _ ?fM ?fO ?iN ?j3 A54.out).mono ?_); (case fM => exact cb_ iG HB); (case fO => exact iD.out); (case iN => exact Kd.aHw _ _); (case j3 => exact Nat.le_refl _); rintro e w60 ⟨rfl, hb⟩; have n0_ := aAt dI hb; have n1_ := bs_ hb; clear dI; clear HB; have dI := n0_; have HB := n1_; clear n0_ n1_; (try clear hb); obtain ⟨cSE, cX3, cPT, cXG, cZO, d0U, cRR, cXC, cY7, cWM, c4M, c8P, cS0, d14, cP4, cPE, cXU, cT9, cUM, cWI, cO6, cVN, c9E, c5E⟩ := aBw dI))
      go_ret
      exact ⟨er_, bb_⟩
     ·rw [if_neg c57] at H
      have b2L := decide_eq_false c57; have b24 : decide (0 < aV.length) = false := decide_eq_false (by omega); clear c57
      by_cases c62 : a4 = true
      ·subst c62
       rw [if_pos rfl] at H; obtain rfl := Option.some.inj H
       go_enter Tryz.func72, Tryz.ntmps72
       go_wp2_with (first | ((with_reducible refine aAc (N := 5) rfl ?_); (try (refine aAn (by rfl) ?_; dsimp only)); refine bx_ 5 #[.int .i64 aA, .string aD, .int .i64 aH, .int .i64 aK, .int .i64 aJ, .int .i64 aI, .string bC, .string bB, .slice dN bG.length dQ, .slice bZ aV.length cB, .int .i64 aW, .slice bP aM.length bM] 42 ?_; intro qA hg w63 hbox hb; have dI := am_ (hbox); have qB := gw_ hg; replace HB := bs_ hb; clear hb hbox hg; obtain ⟨bHK, bID, bLA, bN8, bK2, bCA, bK1, cZE, cYN, cNU, cFB, cG6, bBI, bG8, bHR, bB0, bH9, bHE, bHH, cVS, cNB, cZY, cD8, c79⟩ := aBw dI) | (go_at_call 95; (refine (fA.calls k aH aK aJ aI bC bB _ _ bG 0 0 0 0 (⟨#[]⟩ : ByteArray) (⟨#[]⟩ : ByteArray) _ _ ([] : List S39) true _ ?fM ?fO ?iN ?j3 A54.out).mono ?_); (case fM => exact cb_ iG HB); (case fO => exact iD.out); (case iN => exact Kd.aHw _ _); (case j3 => exact Nat.le_refl _); rintro e w65 ⟨rfl, hb⟩; have n0_ := aAt dI hb; have n1_ := bs_ hb; clear dI; clear HB; have dI := n0_; have HB := n1_; clear n0_ n1_; (try clear hb); obtain ⟨aQL, aWV, aMZ, aPY, aWW, aS0, aRD, bF4, bAX, bBP, b1N, b8J, aT0, aRW, aN7, aWO, aOF, aVJ, aU8, bER, bDW, bMD, b6U, b7F⟩ := aBw dI))
       go_ret
       exact ⟨er_, bb_⟩
      ·replace c62 := Bool.eq_false_iff.mpr c62
       subst c62; replace H := aZf H; obtain rfl := Option.some.inj H
       go_enter Tryz.func72, Tryz.ntmps72
       go_wp2_with (first | ((with_reducible refine aAc (N := 5) rfl ?_); (try (refine aAn (by rfl) ?_; dsimp only)); refine bx_ 5 #[.int .i64 aA, .string aD, .int .i64 aH, .int .i64 aK, .int .i64 aJ, .int .i64 aI, .string bC, .string bB, .slice dN bG.length dQ, .slice bZ aV.length cB, .int .i64 aW, .slice bP aM.length bM] 42 ?_; intro qA hg w67 hbox hb; have dI := am_ (hbox); have qB := gw_ hg; replace HB := bs_ hb; clear hb hbox hg; obtain ⟨cPU, cW5, d12, cVH, cPB, cR5, cUL, d0M, cUR, cR8, c8N, cAX, d03, cV0, cUN, cRG, cPS, cO9, cUO, cTY, cPI, cQ5, cEK, cAF⟩ := aBw dI) | (go_at_call 95; (refine (fA.calls k aH aK aJ aI bC bB _ _ bG 0 0 0 0 (⟨#[]⟩ : ByteArray) (⟨#[]⟩ : ByteArray) _ _ ([] : List S39) true _ ?fM ?fO ?iN ?j3 A54.out).mono ?_); (case fM => exact cb_ iG HB); (case fO => exact iD.out); (case iN => exact Kd.aHw _ _); (case j3 => exact Nat.le_refl _); rintro e w69 ⟨rfl, hb⟩; have n0_ := aAt dI hb; have n1_ := bs_ hb; clear dI; clear HB; have dI := n0_; have HB := n1_; clear n0_ n1_; (try clear hb); obtain ⟨bB7, bI1, bEJ, bF9, bL7, bN6, bM2, bCE, bBA, bJR, b3P, b0N, bG7, bNJ, bFG, bDF, bLD, bJ5, bB5, bMH, bI7, bMC, b1S, b8I⟩ := aBw dI))
       go_ret
       exact ⟨er_, bb_⟩
    ·replace c56 := Bool.eq_false_iff.mpr c56
     subst c56; replace H := aZf H
     by_cases c71 : a4 = true
     ·subst c71
      rw [if_pos rfl] at H; obtain rfl := Option.some.inj H
      go_enter Tryz.func72, Tryz.ntmps72
      go_wp2_with (first | ((with_reducible refine aAc (N := 5) rfl ?_); (try (refine aAn (by rfl) ?_; dsimp only)); refine bx_ 5 #[.int .i64 aA, .string aD, .int .i64 aH, .int .i64 aK, .int .i64 aJ, .int .i64 aI, .string bC, .string bB, .slice dN bG.length dQ, .slice bZ aV.length cB, .int .i64 aW, .slice bP aM.length bM] 42 ?_; intro qA hg w72 hbox hb; have dI := am_ (hbox); have qB := gw_ hg; replace HB := bs_ hb; clear hb hbox hg; obtain ⟨cZS, cXT, cVV, cX7, d0R, d1P, cSG, cPP, cY9, cQ8, cIL, c96, cRB, cVJ, cXO, d1Q, cYO, cSP, cW6, cTV, cTD, cY0, cBC, cLC⟩ := aBw dI) | (go_at_call 95; (refine (fA.calls k aH aK aJ aI bC bB _ _ bG 0 0 0 0 (⟨#[]⟩ : ByteArray) (⟨#[]⟩ : ByteArray) _ _ ([] : List S39) true _ ?fM ?fO ?iN ?j3 A54.out).mono ?_); (case fM => exact cb_ iG HB); (case fO => exact iD.out); (case iN => exact Kd.aHw _ _); (case j3 => exact Nat.le_refl _); rintro e w74 ⟨rfl, hb⟩; have n0_ := aAt dI hb; have n1_ := bs_ hb; clear dI; clear HB; have dI := n0_; have HB := n1_; clear n0_ n1_; (try clear hb); obtain ⟨bC0, bFF, bHV, bEI, bKA, bCC, bFE, bOF, bJC, bFW, b2N, b6H, bKZ, bFX, bMW, bHO, bCB, bNF, bBO, bHZ, bG0, bL9, b43, b5B⟩ := aBw dI))
      go_ret
      exact ⟨er_, bb_⟩
     ·replace c71 := Bool.eq_false_iff.mpr c71
      subst c71; replace H := aZf H; obtain rfl := Option.some.inj H
      go_enter Tryz.func72, Tryz.ntmps72
      go_wp2_with (first | ((with_reducible refine aAc (N := 5) rfl ?_); (try (refine aAn (by rfl) ?_; dsimp only)); refine bx_ 5 #[.int .i64 aA, .string aD, .int .i64 aH, .int .i64 aK, .int .i64 aJ, .int .i64 aI, .string bC, .string bB, .slice dN bG.length dQ, .slice bZ aV.length cB, .int .i64 aW, .slice bP aM.length bM] 42 ?_; intro qA hg w76 hbox hb; have dI := am_ (hbox); have qB := gw_ hg; replace HB := bs_ hb; clear hb hbox hg; obtain ⟨cPN, cQ6, cQ3, cU4, cT5, cQM, d0C, cZH, cSB, d1R, cF5, c5Z, cSZ, cWD, cYQ, cRT, cQF, cU6, cRN, cOD, cRI, cRV, cB5, cM3⟩ := aBw dI) | (go_at_call 95; (refine (fA.calls k aH aK aJ aI bC bB _ _ bG 0 0 0 0 (⟨#[]⟩ : ByteArray) (⟨#[]⟩ : ByteArray) _ _ ([] : List S39) true _ ?fM ?fO ?iN ?j3 A54.out).mono ?_); (case fM => exact cb_ iG HB); (case fO => exact iD.out); (case iN => exact Kd.aHw _ _); (case j3 => exact Nat.le_refl _); rintro e w78 ⟨rfl, hb⟩; have n0_ := aAt dI hb; have n1_ := bs_ hb; clear dI; clear HB; have dI := n0_; have HB := n1_; clear n0_ n1_; (try clear hb)))
      go_ret
      exact ⟨er_, bb_⟩
   ·replace c55 := Bool.eq_false_iff.mpr c55
    subst c55; replace H := aZf H; obtain rfl := Option.some.inj H
    go_enter Tryz.func72, Tryz.ntmps72
    go_wp2_with (first | ((with_reducible refine aAc (N := 5) rfl ?_); (try (refine aAn (by rfl) ?_; dsimp only)); refine bx_ 5 #[.int .i64 aA, .string aD, .int .i64 aH, .int .i64 aK, .int .i64 aJ, .int .i64 aI, .string bC, .string bB, .slice dN bG.length dQ, .slice bZ aV.length cB, .int .i64 aW, .slice bP aM.length bM] 42 ?_; intro qA hg w79 hbox hb; have dI := am_ (hbox); have qB := gw_ hg; replace HB := bs_ hb; clear hb hbox hg; obtain ⟨bFY, bL6, cP7, cYE, cXY, d0D, cRJ, cOF, cQJ, cZU, cCM, cKN, bO1, bKM, cTO, cYC, d0E, cV9, d11, cRH, cWV, cYM, cF8, cI4⟩ := aBw dI) | (go_at_call 95; (refine (fA.calls k aH aK aJ aI bC bB _ _ bG 0 0 0 0 (⟨#[]⟩ : ByteArray) (⟨#[]⟩ : ByteArray) _ _ ([] : List S39) false _ ?fM ?fO ?iN ?j3 A54.out).mono ?_); (case fM => exact cb_ iG HB); (case fO => exact iD.out); (case iN => exact Kd.aHw _ _); (case j3 => exact Nat.le_refl _); rintro e w81 ⟨rfl, hb⟩; have n0_ := aAt dI hb; have n1_ := bs_ hb; clear dI; clear HB; have dI := n0_; have HB := n1_; clear n0_ n1_; (try clear hb)))
    go_ret
    exact ⟨er_, bb_⟩
  ·replace c53 := Bool.eq_false_iff.mpr c53
   subst c53; replace H := aZf H
   by_cases c82 : a3 = true
   ·subst c82
    rw [if_pos rfl] at H
    by_cases c83 : (aV.length : Int) > 0
    ·rw [if_pos c83] at H
     have cDH := decide_eq_true c83; have cAV : decide (0 < aV.length) = true := decide_eq_true (by omega); clear c83; obtain rfl := Option.some.inj H
     go_enter Tryz.func72, Tryz.ntmps72
     go_wp2_with (first | ((with_reducible refine aAc (N := 5) rfl ?_); (try (refine aAn (by rfl) ?_; dsimp only)); refine bx_ 5 #[.int .i64 aA, .string aD, .int .i64 aH, .int .i64 aK, .int .i64 aJ, .int .i64 aI, .string bC, .string bB, .slice dN bG.length dQ, .slice bZ aV.length cB, .int .i64 aW, .slice bP aM.length bM] 42 ?_; intro qA hg w84 hbox hb; have dI := am_ (hbox); have qB := gw_ hg; replace HB := bs_ hb; clear hb hbox hg; obtain ⟨cS4, d1D, cYR, cQW, cUC, cSC, cSS, cUT, cOA, cQO, c4A, cDQ, cOE, cZX, cOM, cV8, cTF, cNR, cSL, cRW, d0B, cMY, cC6, cJN⟩ := aBw dI))
     go_ret
     exact ⟨er_, bb_⟩
    ·rw [if_neg c83] at H
     have cDH := decide_eq_false c83; have cAV : decide (0 < aV.length) = false := decide_eq_false (by omega); clear c83
     by_cases c86 : a4 = true
     ·subst c86
      rw [if_pos rfl] at H; obtain rfl := Option.some.inj H
      go_enter Tryz.func72, Tryz.ntmps72
      go_wp2_with (first | ((with_reducible refine aAc (N := 5) rfl ?_); (try (refine aAn (by rfl) ?_; dsimp only)); refine bx_ 5 #[.int .i64 aA, .string aD, .int .i64 aH, .int .i64 aK, .int .i64 aJ, .int .i64 aI, .string bC, .string bB, .slice dN bG.length dQ, .slice bZ aV.length cB, .int .i64 aW, .slice bP aM.length bM] 42 ?_; intro qA hg w87 hbox hb; have dI := am_ (hbox); have qB := gw_ hg; replace HB := bs_ hb; clear hb hbox hg; obtain ⟨cQL, cWP, cTU, cUG, d1F, d04, cZQ, cR4, cYH, cTI, cFO, cL2, d1C, cRD, cQE, cMQ, cNK, d1O, cQP, cUQ, cQB, cWL, c3X, c5X⟩ := aBw dI))
      go_ret
      exact ⟨er_, bb_⟩
     ·replace c86 := Bool.eq_false_iff.mpr c86
      subst c86; replace H := aZf H; obtain rfl := Option.some.inj H
      go_enter Tryz.func72, Tryz.ntmps72
      go_wp2_with (first | ((with_reducible refine aAc (N := 5) rfl ?_); (try (refine aAn (by rfl) ?_; dsimp only)); refine bx_ 5 #[.int .i64 aA, .string aD, .int .i64 aH, .int .i64 aK, .int .i64 aJ, .int .i64 aI, .string bC, .string bB, .slice dN bG.length dQ, .slice bZ aV.length cB, .int .i64 aW, .slice bP aM.length bM] 42 ?_; intro qA hg w89 hbox hb; have dI := am_ (hbox); have qB := gw_ hg; replace HB := bs_ hb; clear hb hbox hg; obtain ⟨d1X, cNG, cOL, cYL, d0Q, cUX, cWX, cS7, cXE, d0O, c67, cJ0, cV5, cZP, cT4, cOR, cYA, cUV, cQ2, cQ9, cW7, cVI, cCK, cC1⟩ := aBw dI))
      go_ret
      exact ⟨er_, bb_⟩
   ·replace c82 := Bool.eq_false_iff.mpr c82
    subst c82; replace H := aZf H
    by_cases c91 : a4 = true
    ·subst c91
     rw [if_pos rfl] at H; obtain rfl := Option.some.inj H
     go_enter Tryz.func72, Tryz.ntmps72
     go_wp2_with (first | ((with_reducible refine aAc (N := 5) rfl ?_); (try (refine aAn (by rfl) ?_; dsimp only)); refine bx_ 5 #[.int .i64 aA, .string aD, .int .i64 aH, .int .i64 aK, .int .i64 aJ, .int .i64 aI, .string bC, .string bB, .slice dN bG.length dQ, .slice bZ aV.length cB, .int .i64 aW, .slice bP aM.length bM] 42 ?_; intro qA hg w92 hbox hb; have dI := am_ (hbox); have qB := gw_ hg; replace HB := bs_ hb; clear hb hbox hg; obtain ⟨cPO, cZD, cVY, cT1, cS8, cT3, cST, cN4, cYD, cR2, cJM, cAQ, cR0, d1V, cUY, cTL, cPV, cOT, cU9, cWU, cYI, cQI, cJ9, cC2⟩ := aBw dI))
     go_ret
     exact ⟨er_, bb_⟩
    ·replace c91 := Bool.eq_false_iff.mpr c91
     subst c91; replace H := aZf H; obtain rfl := Option.some.inj H
     go_enter Tryz.func72, Tryz.ntmps72
     go_wp2_with (first | ((with_reducible refine aAc (N := 5) rfl ?_); (try (refine aAn (by rfl) ?_; dsimp only)); refine bx_ 5 #[.int .i64 aA, .string aD, .int .i64 aH, .int .i64 aK, .int .i64 aJ, .int .i64 aI, .string bC, .string bB, .slice dN bG.length dQ, .slice bZ aV.length cB, .int .i64 aW, .slice bP aM.length bM] 42 ?_; intro qA hg w94 hbox hb; have dI := am_ (hbox); have qB := gw_ hg; replace HB := bs_ hb; clear hb hbox hg))
     go_ret
     exact ⟨er_, bb_⟩

def dG.l0 (E_ : (List S68) → Int → ByteArray → Int → Int → Int → Int → ByteArray → ByteArray → (List S39) → (List S39) → Int → (List S42) → Int → Option Int) : Nat → List S68 → Int → List Int → List S42 → Int → Int → Option (List Int × Bool)
 | 0, _, _, _, _, _, _ => none
 | k + 1, x1, x2, x10, x20, x21, x22 => if x22 < x21 then (if 0 ≤ x22 then (if x22 < (x20.length : Int) then ((E_ x1 ((aAe x20 x22).f0) ((aAe x20 x22).f1) ((aAe x20 x22).f2.f0) ((aAe x20 x22).f2.f1) ((aAe x20 x22).f2.f2.f0) ((aAe x20 x22).f2.f2.f1) ((aAe x20 x22).f2.f2.f2) ((aAe x20 x22).f2.f3) ((aAe x20 x22).f2.f4) ((aAe x20 x22).f3) ((aAe x20 x22).f4) ((aAe x20 x22).f5) (wrap64 (x2 + 1))).bind fun a7Q => (if a7Q < 0 then (some (([] : List Int), false)) else (if x10.length < 17592186044416 then (dG.l0 E_ k x1 x2 (x10 ++ [a7Q]) x20 x21 (wrap64 (x22 + 1))) else (none)))) else (none)) else (none)) else (some (x10, true))
def dG.f (E_ : (List S68) → Int → ByteArray → Int → Int → Int → Int → ByteArray → ByteArray → (List S39) → (List S39) → Int → (List S42) → Int → Option Int) (k : Nat) (aA : Int) (aD : ByteArray) (aH aK : Int) (aJ aI : Int) (bC bB : ByteArray) (bG aV : List S39) (aW : Int) (aM : List S42) (l1 : List S68) (a2 a3 : Int) : Option (List Int × Bool) := if (aM.length : Int) = a3 then (dG.l0 E_ k l1 a2 ([] : List Int) aM (aM.length : Int) 0) else (some (([] : List Int), false))
theorem cM4 {B : Nat} {w W : World} (h : Below B w W := by repeat (first | (with_reducible first | exact HB.out | apply aAi | apply aAo | apply aAm | refine aAk ?_ b23.out) | exact HB.out)) : Below B w W := h
theorem dG.calls (E_ : (List S68) → Int → ByteArray → Int → Int → Int → Int → ByteArray → ByteArray → (List S39) → (List S39) → Int → (List S42) → Int → Option Int) (UC : ∀ (A0 : Option Addr) (c0 : Nat) (l0 : List S68) (aX : Int) (bD : ByteArray) (bJ bX : Int) (bY bV : Int) (eX eY : ByteArray) (iX : Option Addr) (iY : Nat) (dU : List S39) (iA : Option Addr) (gZ : Nat) (dB : List S39) (dC : Int) (fP : Option Addr) (fG : Nat) (aY : List S42) (a2 r : Int) (w : World) (hr0 : Kd.C BC w A0 l0.length l0) (hc0 : l0.length ≤ c0) (nM : Kd.C jX w iX dU.length dU) (nP : dU.length ≤ iY) (mK : Kd.C jX w iA dB.length dB) (mM : dB.length ≤ gZ) (kJ : Kd.C E5 w fP aY.length aY) (kI : aY.length ≤ fG) (h : E_ l0 aX bD bJ bX bY bV eX eY dU dB dC aY a2 = some r), Calls Tryz.prog 27 #[.slice A0 l0.length c0, .agg #[.int .i64 aX, .string bD, .int .i64 bJ, .int .i64 bX, .int .i64 bY, .int .i64 bV, .string eX, .string eY, .slice iX dU.length iY, .slice iA dB.length gZ, .int .i64 dC, .slice fP aY.length fG], .int .i64 a2] w fun e w' => e = .returned (.int .i64 r) ∧ Below w.heap.size w w') (k : Nat) (aA : Int) (aD : ByteArray) (aH aK : Int) (aJ aI : Int) (bC bB : ByteArray) (dN : Option Addr) (dQ : Nat) (bG : List S39) (bZ : Option Addr) (cB : Nat) (aV : List S39) (aW : Int) (bP : Option Addr) (bM : Nat) (aM : List S42) (A1 : Option Addr) (c1 : Nat) (l1 : List S68) (a2 a3 : Int) (r1 : List Int) (r2 : Bool) (w : World) (mG : Kd.C jX w dN bG.length bG) (lV : bG.length ≤ dQ) (jG : Kd.C jX w bZ aV.length aV) (jH : aV.length ≤ cB) (jS : Kd.C E5 w bP aM.length aM) (jN : aM.length ≤ bM) (hr1 : Kd.C BC w A1 l1.length l1) (hc1 : l1.length ≤ c1) (h : dG.f E_ k aA aD aH aK aJ aI bC bB bG aV aW aM l1 a2 a3 = some (r1, r2)) :
  Calls Tryz.prog 73 #[.agg #[.int .i64 aA, .string aD, .int .i64 aH, .int .i64 aK, .int .i64 aJ, .int .i64 aI, .string bC, .string bB, .slice dN bG.length dQ, .slice bZ aV.length cB, .int .i64 aW, .slice bP aM.length bM], .slice A1 l1.length c1, .int .i64 a2, .int .i64 a3] w fun e w' => ∃ I7 : Value, e = .returned (.tuple #[I7, .bool r2]) ∧ Kd.R (Kd.int .i64) 3 w' w.heap.size (fun _ => True) I7 r1 ∧ Below w.heap.size w w' := by
 have MW := Tryz.underlying42
 have iG := am_ mG
 have iD := am_ lV
 clear mG lV
 have iR := am_ jG
 have iZ := am_ jH
 clear jG jH
 have jE := am_ jS
 have jR := am_ jN
 clear jS jN
 have HR1 := am_ hr1
 have MZ := am_ hc1
 clear hr1 hc1
 have HB := am_ (Below.refl w.heap.size w)
 have H : (if (aM.length : Int) = a3 then (dG.l0 E_ k l1 a2 ([] : List Int) aM (aM.length : Int) 0) else (some (([] : List Int), false))) = some (r1, r2) := h
 clear h
 by_cases c5 : (aM.length : Int) = a3
 ·rw [if_pos c5] at H
  have pV : ((aM.length : Int) == a3) = true := beq_iff_eq.mpr c5; have NR : ((aM.length : Int) != a3) = false := bne_eq_false_iff_eq.mpr c5; clear c5; have H' := am_ H; clear H
  go_enter Tryz.func73, Tryz.ntmps73
  go_wp2_with (first | ((with_reducible refine aAc (N := 4) rfl ?_); refine bx_ 4 #[.int .i64 aA, .string aD, .int .i64 aH, .int .i64 aK, .int .i64 aJ, .int .i64 aI, .string bC, .string bB, .slice dN bG.length dQ, .slice bZ aV.length cB, .int .i64 aW, .slice bP aM.length bM] 42 ?_; intro aHI hg w6 hbox hb; have qO := am_ (hbox); have b23 := gw_ hg; replace HB := bs_ hb; clear hb hbox hg; obtain ⟨uN, uU, FR, aBK, a8L, a9S, a6E, b9U, b1I, b74, aN0, aSI, uY, uP, FJ, aAQ, aAS, a7N, a2Z, b36, b1K, bA9, aKE, aRU⟩ := aBw qO))
  go_loopg [10, 22] k (fun kq v10 v22 w' => ∃ (a0S : List Int) (dA : Int), v22 = .int .i64 dA ∧ Aside0 (dG.l0 E_ kq l1 a2 a0S aM (aM.length : Int) dA = some (r1, r2)) ∧ Aside0 (kq ≤ k) ∧ Aside0 (Kd.R (Kd.int .i64) 3 w' w.heap.size (fun _ => True) v10 a0S) ∧ Aside0 (w'.heap[aHI]? = some (.cells #[.int .i64 aA, .string aD, .int .i64 aH, .int .i64 aK, .int .i64 aJ, .int .i64 aI, .string bC, .string bB, (.slice dN bG.length dQ), (.slice bZ aV.length cB), .int .i64 aW, (.slice bP aM.length bM)] 42 (0, 0))) ∧ Aside0 (Below w.heap.size w w'))
  case atStart => exact ⟨(([] : List Int)), (0), rs_, H', ⟨Nat.le_refl _⟩, ⟨by first | exact Kd.aFr _ _ _ _ _ | exact Kd.aRo _ _ _ _ _ | exact Kd.aOg _ _ _ _ _ | exact Kd.aRw _ _ _ _ _ | exact Kd.aRy _ _ _ _ _⟩, ⟨aBx qO.out⟩, ⟨bb_⟩⟩
  case round =>
   clear H'; (try clear c1); (try clear p2); (try clear c5); (try clear pV); (try clear NR); (try clear c7); (try clear uN uU); (try clear aN0); (try clear aSI); (try clear FR aBK a8L a9S a6E b9U b1I b74 uY uP); (try clear aKE); (try clear aRU); (try clear FJ aAQ aAS a7N a2Z b36 b1K bA9); obtain ⟨a0S, dA, rfl, HA, jK, zD, qO, HB⟩ := hrel
   cases gk with
   | zero => exact absurd HA.out (by simp [dG.l0])
   | succ k1 =>
    have H := HA.out; clear HA; simp only [dG.l0] at H
    by_cases c8 : dA < (aM.length : Int)
    ·rw [if_pos c8] at H
     have J4 := decide_eq_true c8; clear c8
     by_cases c9 : 0 ≤ dA
     ·rw [if_pos c9] at H
      have xC := decide_eq_true c9; clear c9
      by_cases c10 : dA < (aM.length : Int)
      ·rw [if_pos c10] at H
       have UA := decide_eq_true c10; clear c10; replace H := aBp H; obtain ⟨a7Q, N7, H⟩ := H
       try dsimp only at H
       have MX := am_ N7; clear N7
       by_cases c12 : a7Q < 0
       ·rw [if_pos c12] at H
        have uK := decide_eq_true c12; clear c12; simp only [Option.some.injEq, Prod.mk.injEq] at H; obtain ⟨rfl, rfl⟩ := H; (have aJ6 : 0 ≤ (dA : Int) := oa_); (have aJR : dA < (aM.length : Int) := oa_); obtain ⟨aQW, TH, TI, TS, TG, M3, M8, bYK, Q5, NW, QB, P5, QI, OI, O0, QN, R3, OX, K6, J8, QP, QY, QQ, OP, K4, IQ⟩ := YA jE.out dA aJ6 aJR; cases bYK; obtain ⟨Q5, NW, QB, P5, QI, OI, O0, QN, R3, OX, K6, J8⟩ := aNq HB Q5 NW QB P5 QI OI O0 QN R3 OX K6 J8; have a7E := am_ QY; have a9H := am_ QP; clear QY QP; have aBI := am_ OP; have aA1 := am_ QQ; clear OP QQ; have ZT := am_ IQ; have ZZ := am_ K4; clear IQ K4; replace aJ6 := eq_true aJ6; replace aJR := eq_true aJR
        go_wp2_with (first | ((with_reducible refine aAc (N := 12) rfl ?_); refine bx_ 12 #[.int .i64 0, .string (⟨#[]⟩ : ByteArray), .int .i64 0, .int .i64 0, .int .i64 0, .int .i64 0, .string (⟨#[]⟩ : ByteArray), .string (⟨#[]⟩ : ByteArray), .slice none 0 0, .slice none 0 0, .int .i64 0, .slice none 0 0] 42 ?_; intro aVH hg ZO hbox hb; have GU := am_ (hbox); have bP0 := gw_ hg; have TP := nl_ hg qO; have SK := ng_ hg qO; replace zD := am_ (Kd.aAs (rk_ zD.out) hb); replace qO := aAt qO hb; replace HB := bs_ hb; clear hb hbox hg; have b0H := SK.out; have b92 := TP.out; obtain ⟨pX, pU, rQ, BZ, CW, BN, DK, a92, a8J, aAH, ZL, Y8, pJ, pR, rR, BJ, DC, BH, CQ, a5D, aA3, a9F, Z4, Y0⟩ := aBw GU) | ((with_reducible refine aAa (f := 27) rfl ?_); refine aBh (some 30) Tryz.func27 #[.slice A1 l1.length c1, .agg #[.int .i64 ((aAe aM dA).f0), .string ((aAe aM dA).f1), .int .i64 ((aAe aM dA).f2.f0), .int .i64 ((aAe aM dA).f2.f1), .int .i64 ((aAe aM dA).f2.f2.f0), .int .i64 ((aAe aM dA).f2.f2.f1), .string ((aAe aM dA).f2.f2.f2), .string ((aAe aM dA).f2.f3), .slice TH ((aAe aM dA).f2.f4).length TI, .slice TS ((aAe aM dA).f3).length TG, .int .i64 ((aAe aM dA).f4), .slice M3 ((aAe aM dA).f5).length M8], .int .i64 (wrap64 (a2 + 1))] ?_; (with_reducible refine (UC _ _ l1 ((aAe aM dA).f0) ((aAe aM dA).f1) ((aAe aM dA).f2.f0) ((aAe aM dA).f2.f1) ((aAe aM dA).f2.f2.f0) ((aAe aM dA).f2.f2.f1) ((aAe aM dA).f2.f2.f2) ((aAe aM dA).f2.f3) _ _ ((aAe aM dA).f2.f4) _ _ ((aAe aM dA).f3) ((aAe aM dA).f4) _ _ ((aAe aM dA).f5) (wrap64 (a2 + 1)) a7Q _ ?fM ?fO ?iN ?j3 ?zO ?zL ?PU ?OL MX.out).mono ?_); (case fM => exact Kd.aAp HR1.out bb_); (case fO => exact MZ.out); (case iN => exact Kd.aAp a7E.out bb_); (case j3 => exact a9H.out); (case zO => exact Kd.aAp aBI.out bb_); (case zL => exact aA1.out); (case PU => exact Kd.aAp ZT.out bb_); (case OL => exact ZZ.out); rintro e w16 ⟨rfl, hb⟩; refine ⟨_, rfl, ?_⟩; have n0_ := am_ (Kd.aAs (rk_ (Kd.aAw (aNj (Kd.aCa zD.out GU.out (by decide)) (fun _ hk => hk.2)) (fun _ h_ => h_.1))) hb); have n1_ := am_ (aBe (g := aHI) (o := .cells #[.int .i64 aA, .string aD, .int .i64 aH, .int .i64 aK, .int .i64 aJ, .int .i64 aI, .string bC, .string bB, .slice dN bG.length dQ, .slice bZ aV.length cB, .int .i64 aW, .slice (some aQW) aM.length bM] 42 (0, 0)) bw_ hb); have pO := am_ (aBe (g := aVH) (o := .cells #[.int .i64 ((aAe aM dA).f0), .string ((aAe aM dA).f1), .int .i64 ((aAe aM dA).f2.f0), .int .i64 ((aAe aM dA).f2.f1), .int .i64 ((aAe aM dA).f2.f2.f0), .int .i64 ((aAe aM dA).f2.f2.f1), .string ((aAe aM dA).f2.f2.f2), .string ((aAe aM dA).f2.f3), .slice TH ((aAe aM dA).f2.f4).length TI, .slice TS ((aAe aM dA).f3).length TG, .int .i64 ((aAe aM dA).f4), .slice M3 ((aAe aM dA).f5).length M8] 42 (0, 0)) bw_ hb); have n3_ := bs_ hb; clear zD; clear qO; clear GU; clear HB; have zD := n0_; have qO := n1_; have GU := pO; have HB := n3_; clear n0_ n1_ pO n3_; (try clear hb)))
        go_ret2
        (exact ⟨_, rr_, by first | exact Kd.aFr _ _ _ _ _ | exact Kd.aRo _ _ _ _ _ | exact Kd.aOg _ _ _ _ _ | exact Kd.aRw _ _ _ _ _ | exact Kd.aRy _ _ _ _ _, by repeat (first | (with_reducible first | exact HB.out | apply aAi | apply aAo | apply aAm | refine aAk ?_ b23.out | refine aAk ?_ bP0.out) | exact HB.out)⟩)
       ·rw [if_neg c12] at H
        have uK := decide_eq_false c12; clear c12
        by_cases c17 : a0S.length < 17592186044416
        ·rw [if_pos c17] at H
         have c8Q := am_ c17; clear c17; obtain ⟨c4V, aCT⟩ : ∃ y_ : List Int, y_ = (a0S ++ [a7Q]) := ⟨_, rfl⟩; (replace H : (dG.l0 E_ k1 l1 a2 c4V aM (aM.length : Int) (wrap64 (dA + 1))) = some (r1, r2) := by first | (rw [aCT]; with_reducible exact H) | (have jC := (Option.bind_some _ _).symm.trans H; rw [aCT]; with_reducible exact jC) | (have jC := (Option.bind_some _ _).symm.trans H; with_reducible exact jC) | with_reducible exact H | (rw [aCT]; exact H) | exact H); have cEC := am_ aCT; clear aCT; have H' := am_ H; clear H; (have aJ6 : 0 ≤ (dA : Int) := oa_); (have aJR : dA < (aM.length : Int) := oa_); obtain ⟨aQW, TH, TI, TS, TG, M3, M8, bYK, Q5, NW, QB, P5, QI, OI, O0, QN, R3, OX, K6, J8, QP, QY, QQ, OP, K4, IQ⟩ := YA jE.out dA aJ6 aJR; cases bYK; obtain ⟨Q5, NW, QB, P5, QI, OI, O0, QN, R3, OX, K6, J8⟩ := aNq HB Q5 NW QB P5 QI OI O0 QN R3 OX K6 J8; have a7E := am_ QY; have a9H := am_ QP; clear QY QP; have aBI := am_ OP; have aA1 := am_ QQ; clear OP QQ; have ZT := am_ IQ; have ZZ := am_ K4; clear IQ K4; replace aJ6 := eq_true aJ6; replace aJR := eq_true aJR
         go_wp2_with (first | ((with_reducible refine aAc (N := 12) rfl ?_); refine bx_ 12 #[.int .i64 0, .string (⟨#[]⟩ : ByteArray), .int .i64 0, .int .i64 0, .int .i64 0, .int .i64 0, .string (⟨#[]⟩ : ByteArray), .string (⟨#[]⟩ : ByteArray), .slice none 0 0, .slice none 0 0, .int .i64 0, .slice none 0 0] 42 ?_; intro aVH hg w18 hbox hb; have GU := am_ (hbox); have bP0 := gw_ hg; have TP := nl_ hg qO; have SK := ng_ hg qO; replace zD := am_ (Kd.aAs (rk_ zD.out) hb); replace qO := aAt qO hb; replace HB := bs_ hb; clear hb hbox hg; have c6O := SK.out; have c5I := TP.out; obtain ⟨yD, xU, CJ, GG, FM, FH, F4, O4, PR, RG, IP, JQ, yN, yL, BR, FT, F5, FX, GM, Q3, OE, OJ, IR, JB⟩ := aBw GU) | ((with_reducible refine aAa (f := 27) rfl ?_); refine aBh (some 30) Tryz.func27 #[.slice A1 l1.length c1, .agg #[.int .i64 ((aAe aM dA).f0), .string ((aAe aM dA).f1), .int .i64 ((aAe aM dA).f2.f0), .int .i64 ((aAe aM dA).f2.f1), .int .i64 ((aAe aM dA).f2.f2.f0), .int .i64 ((aAe aM dA).f2.f2.f1), .string ((aAe aM dA).f2.f2.f2), .string ((aAe aM dA).f2.f3), .slice TH ((aAe aM dA).f2.f4).length TI, .slice TS ((aAe aM dA).f3).length TG, .int .i64 ((aAe aM dA).f4), .slice M3 ((aAe aM dA).f5).length M8], .int .i64 (wrap64 (a2 + 1))] ?_; (with_reducible refine (UC _ _ l1 ((aAe aM dA).f0) ((aAe aM dA).f1) ((aAe aM dA).f2.f0) ((aAe aM dA).f2.f1) ((aAe aM dA).f2.f2.f0) ((aAe aM dA).f2.f2.f1) ((aAe aM dA).f2.f2.f2) ((aAe aM dA).f2.f3) _ _ ((aAe aM dA).f2.f4) _ _ ((aAe aM dA).f3) ((aAe aM dA).f4) _ _ ((aAe aM dA).f5) (wrap64 (a2 + 1)) a7Q _ ?fM ?fO ?iN ?j3 ?zO ?zL ?PU ?OL MX.out).mono ?_); (case fM => exact Kd.aAp HR1.out bb_); (case fO => exact MZ.out); (case iN => exact Kd.aAp a7E.out bb_); (case j3 => exact a9H.out); (case zO => exact Kd.aAp aBI.out bb_); (case zL => exact aA1.out); (case PU => exact Kd.aAp ZT.out bb_); (case OL => exact ZZ.out); rintro e w21 ⟨rfl, hb⟩; refine ⟨_, rfl, ?_⟩; have n0_ := am_ (Kd.aAs (rk_ (Kd.aAw (aNj (Kd.aCa zD.out GU.out (by decide)) (fun _ hk => hk.2)) (fun _ h_ => h_.1))) hb); have n1_ := am_ (aBe (g := aHI) (o := .cells #[.int .i64 aA, .string aD, .int .i64 aH, .int .i64 aK, .int .i64 aJ, .int .i64 aI, .string bC, .string bB, .slice dN bG.length dQ, .slice bZ aV.length cB, .int .i64 aW, .slice (some aQW) aM.length bM] 42 (0, 0)) bw_ hb); have pO := am_ (aBe (g := aVH) (o := .cells #[.int .i64 ((aAe aM dA).f0), .string ((aAe aM dA).f1), .int .i64 ((aAe aM dA).f2.f0), .int .i64 ((aAe aM dA).f2.f1), .int .i64 ((aAe aM dA).f2.f2.f0), .int .i64 ((aAe aM dA).f2.f2.f1), .string ((aAe aM dA).f2.f2.f2), .string ((aAe aM dA).f2.f3), .slice TH ((aAe aM dA).f2.f4).length TI, .slice TS ((aAe aM dA).f3).length TG, .int .i64 ((aAe aM dA).f4), .slice M3 ((aAe aM dA).f5).length M8] 42 (0, 0)) bw_ hb); have n3_ := bs_ hb; clear zD; clear qO; clear GU; clear HB; have zD := n0_; have qO := n1_; have GU := pO; have HB := n3_; clear n0_ n1_ pO n3_; (try clear hb)) | ((with_reducible refine aEx (b := .append) (xs := #[.tmp 33, .tmp 35]) rfl ?_); at_builtin; refine Kd.aLu (Kd.int .i64) (w0 := w) w.heap.size rfl (.tmp 33) (.tmp 35) 99 3 (.int .i64 0) 8 rfl Tryz.underlying99 info3 rfl (by decide) (by omega) u10 a0S a7Q [.int .i64 a7Q] (fun _ => True) (fun _ => False) rfl rfl ?aP (fun _ hk => hk.elim) ?aF ?aO ?aB ?aS ?aL ?_; (case aP => exact rfl); (case aB => exact bb_); (case aF => exact (fun _ _ => trivial)); (case aO => exact (rk_ zD.out)); (case aS => exact (aAj bb_)); (case aL => have := c8Q.out; omega); intro dCF w22 ho hb hg hat; rw [← cEC.out] at ho; have cAN := am_ (ho); replace qO := am_ (aFd (g := aHI) (o := .cells #[.int .i64 aA, .string aD, .int .i64 aH, .int .i64 aK, .int .i64 aJ, .int .i64 aI, .string bC, .string bB, .slice dN bG.length dQ, .slice bZ aV.length cB, .int .i64 aW, .slice (some aQW) aM.length bM] 42 (0, 0)) (aBx qO.out) hg (Kd.aWf zD.out qO.out (by decide))); replace GU := am_ (aFd (g := aVH) (o := .cells #[.int .i64 ((aAe aM dA).f0), .string ((aAe aM dA).f1), .int .i64 ((aAe aM dA).f2.f0), .int .i64 ((aAe aM dA).f2.f1), .int .i64 ((aAe aM dA).f2.f2.f0), .int .i64 ((aAe aM dA).f2.f2.f1), .string ((aAe aM dA).f2.f2.f2), .string ((aAe aM dA).f2.f3), .slice TH ((aAe aM dA).f2.f4).length TI, .slice TS ((aAe aM dA).f3).length TG, .int .i64 ((aAe aM dA).f4), .slice M3 ((aAe aM dA).f5).length M8] 42 (0, 0)) (aBx GU.out) hg (Kd.aWf zD.out GU.out (by decide))); replace HB := am_ (hb); clear zD; clear ho hb hg hat))
         go_roundg k1
         case measure => have := jK.out; omega
         case rel => exact ⟨(c4V), (wrap64 (dA + 1)), rs_, H', ⟨by have := jK.out; omega⟩, ⟨by (with_reducible repeat (first | apply Kd.aBf | apply Kd.aBg | apply Kd.aBi)); exact cAN.out⟩, ⟨aBx qO.out⟩, ⟨bb_⟩⟩
        ·rw [if_neg c17] at H
         exact nn_ H
      ·rw [if_neg c10] at H
       exact nn_ H
     ·rw [if_neg c9] at H
      exact nn_ H
    ·rw [if_neg c8] at H
     have J4 := decide_eq_false c8; clear c8; simp only [Option.some.injEq, Prod.mk.injEq] at H; obtain ⟨rfl, rfl⟩ := H
     go_wp2
     go_ret2
     (exact ⟨_, rr_, by (with_reducible repeat (first | apply Kd.aBf | apply Kd.aBg | apply Kd.aBi)); exact zD.out, cM4⟩)
 ·rw [if_neg c5] at H
  have pV : ((aM.length : Int) == a3) = false := beq_eq_false_iff_ne.mpr c5; have NR : ((aM.length : Int) != a3) = true := bne_iff_ne.mpr c5; simp only [Option.some.injEq, Prod.mk.injEq] at H; obtain ⟨rfl, rfl⟩ := H
  go_enter Tryz.func73, Tryz.ntmps73
  go_wp2_with (first | ((with_reducible refine aAc (N := 4) rfl ?_); refine bx_ 4 #[.int .i64 aA, .string aD, .int .i64 aH, .int .i64 aK, .int .i64 aJ, .int .i64 aI, .string bC, .string bB, .slice dN bG.length dQ, .slice bZ aV.length cB, .int .i64 aW, .slice bP aM.length bM] 42 ?_; intro aHI hg w23 hbox hb; have qO := am_ (hbox); have b23 := gw_ hg; replace HB := bs_ hb; clear hb hbox hg; obtain ⟨SC, OA, PM, V8, UR, WA, VP, aR5, aTR, aP7, aIH, aD5, QW, P6, PN, XK, V7, UZ, VR, aM4, aSK, aX4, aDM, aGQ⟩ := aBw qO))
  go_ret2
  (exact ⟨_, rr_, by first | exact Kd.aFr _ _ _ _ _ | exact Kd.aRo _ _ _ _ _ | exact Kd.aOg _ _ _ _ _ | exact Kd.aRw _ _ _ _ _ | exact Kd.aRy _ _ _ _ _, cM4⟩)

theorem a08.calls (f : S39 → Option Bool) (g : Nat) (lb : Array Value) (eg : ∀ args w, (callFunc g args).run Tryz.prog w = .ok (.enter g args) w) (A : Option Addr) (c : Nat) (xs : List S39) (r : Int) (w : World) (hr : Kd.C jX w A xs.length xs) (hp : CB Tryz.prog jX (fun cs => Value.agg cs.toArray) g lb f xs w) (h : aGj f xs 0 = some r) :
  Calls Tryz.prog 122 #[.slice A xs.length c, .func (.func g) #[] lb] w fun e w' => e = .returned (.int .i64 r) ∧ Below w.heap.size w w' := by
 have hbig : xs.length ≤ 9223372036854775807 := hr.2.1
 have HR := am_ hr
 have HP := am_ hp
 have HX := am_ h
 clear hr hp h
 go_enter Tryz.func122, Tryz.ntmps122
 go_wp2
 go_loopg [5, 8] xs.length (fun gg _ s8 wr => ∃ x : Int, s8 = .int .i64 x ∧ Aside0 (0 ≤ x ∧ x ≤ xs.length ∧ xs.length - x.toNat ≤ gg ∧ aGj f (xs.drop x.toNat) x = some r ∧ Below w.heap.size w wr))
 case atStart => exact ⟨0, rfl, ⟨by omega, by omega, by simp, by simpa using HX.out, Below.refl _ _⟩⟩
 case round =>
  obtain ⟨x, rfl, HI⟩ := hrel; obtain ⟨x0, x1, hg, hi, BW⟩ := HI.out
  by_cases hlt : x < (xs.length : Int)
  ·have c4 : decide (x < (xs.length : Int)) = true := decide_eq_true hlt
   have c5 : decide (0 ≤ x) = true := decide_eq_true x0; obtain ⟨ad, cs, rfl, hl, hK, hcell⟩ := Kd.aEj (Kd.aAp HR.out BW) (z39 : S39) x x0 hlt; obtain ⟨b, hb, hm, ht, hf⟩ := aEq (z39 : S39) x0 hlt hi; generalize xs.getD x.toNat (z39 : S39) = p at hK hb hm; have F3 := hK; obtain ⟨aA6, aC6, rfl, _, _⟩ := zY hK; have hcell1 : ∀ j u, ([(.int .i64 p.f0), (.int .i64 p.f1), (.int .i64 p.f2.f0), (.int .i64 p.f2.f1), (.string p.f2.f2), (.string p.f3), (.slice aA6 p.f4.length aC6)] : List Value)[j]? = some u → wr.cell? (ad.add (x.toNat * 7 + j)) = some u := hcell; have hc0 : wr.cell? (ad.add (x.toNat * 7)) = some (.int .i64 p.f0) := hcell1 0 _ rfl; (have hc1 : wr.cell? ⟨(ad.add (x.toNat * 7)).block, (ad.add (x.toNat * 7)).off + 1, none⟩ = some (.int .i64 p.f1) := by rw [← aAg _ _ 1 (by omega)]; exact hcell1 1 _ rfl); (have hc2 : wr.cell? ⟨(ad.add (x.toNat * 7)).block, (ad.add (x.toNat * 7)).off + 2, none⟩ = some (.int .i64 p.f2.f0) := by rw [← aAg _ _ 2 (by omega)]; exact hcell1 2 _ rfl); (have hc3 : wr.cell? ⟨(ad.add (x.toNat * 7)).block, (ad.add (x.toNat * 7)).off + 3, none⟩ = some (.int .i64 p.f2.f1) := by rw [← aAg _ _ 3 (by omega)]; exact hcell1 3 _ rfl); (have hc4 : wr.cell? ⟨(ad.add (x.toNat * 7)).block, (ad.add (x.toNat * 7)).off + 4, none⟩ = some (.string p.f2.f2) := by rw [← aAg _ _ 4 (by omega)]; exact hcell1 4 _ rfl); (have hc5 : wr.cell? ⟨(ad.add (x.toNat * 7)).block, (ad.add (x.toNat * 7)).off + 5, none⟩ = some (.string p.f3) := by rw [← aAg _ _ 5 (by omega)]; exact hcell1 5 _ rfl); (have hc6 : wr.cell? ⟨(ad.add (x.toNat * 7)).block, (ad.add (x.toNat * 7)).off + 6, none⟩ = some (.slice aA6 p.f4.length aC6) := by rw [← aAg _ _ 6 (by omega)]; exact hcell1 6 _ rfl); have hcall : Calls Tryz.prog g (#[(.agg #[(.int .i64 p.f0), (.int .i64 p.f1), (.int .i64 p.f2.f0), (.int .i64 p.f2.f1), (.string p.f2.f2), (.string p.f3), (.slice aA6 p.f4.length aC6)])] ++ lb) wr (fun e w' => e = .returned (.bool b) ∧ Below wr.heap.size wr w') := HP.out wr _ _ b BW hm F3 hb
   cases b with
   | true =>
    have HJ := am_ (And.intro (ht rfl) BW); clear hcell hcell1 hK hb hm ht hf hi BW HI hg hl F3
    go_wp2_with (go_at_fn g; refine hcall.mono ?_; rintro e w' ⟨rfl, hb'⟩)
    go_ret
    exact ⟨aDo HJ.out.1.symm, HJ.out.2.trans (hb'.mono HJ.out.2.size)⟩
   | false =>
    have HJ := am_ (And.intro hg (And.intro (hf rfl) BW)); clear hcell hcell1 hK hb hm ht hf hi BW HI hg hl F3
    go_wp2_with (go_at_fn g; refine hcall.mono ?_; rintro e w' ⟨rfl, hb'⟩)
    go_roundg (xs.length - (x.toNat + 1))
    case measure => have := HJ.out.1; omega
    case rel => exact ⟨x + 1, by go_num, ⟨by omega, by omega, by omega, HJ.out.2.1, HJ.out.2.2.trans (hb'.mono HJ.out.2.2.size)⟩⟩
  ·have c4 : decide (x < (xs.length : Int)) = false := decide_eq_false hlt
   have hr : r = -1 := aFl hlt hi; clear hi HI; subst hr
   go_wp2
   go_ret
   exact ⟨rfl, BW⟩

theorem SL.calls (f : S39 → Option Bool) (g : Nat) (lb : Array Value) (eg : ∀ args w, (callFunc g args).run Tryz.prog w = .ok (.enter g args) w) (A : Option Addr) (c : Nat) (xs : List S39) (r : Int) (w : World) (hr : Kd.C jX w A xs.length xs) (hp : CB Tryz.prog jX (fun cs => Value.agg cs.toArray) g lb f xs w) (h : aGj f xs 0 = some r) :
  Calls Tryz.prog 100 #[.slice A xs.length c, .func (.func g) #[] lb] w fun e w' => e = .returned (.bool (decide (r ≥ 0))) ∧ Below w.heap.size w w' := by
 have hcall := a08.calls f g lb eg A c xs r w hr hp h
 clear hr hp h
 go_enter Tryz.func100, Tryz.ntmps100
 go_wp2_with (go_at_call 122; refine hcall.mono ?_; rintro e w' ⟨rfl, hb'⟩)
 go_ret
 exact ⟨rfl, hb'⟩

theorem AO.not (f : S39 → Option Bool) (g : Nat) (lb : Array Value) (eg : ∀ args w, (callFunc g args).run Tryz.prog w = .ok (.enter g args) w) (B : Nat) (xs : List S39) (w : World) (hB : B < w.heap.size) (hp : CB Tryz.prog jX (fun cs => Value.agg cs.toArray) g lb f xs w) (hc : w.cell? ⟨B, 0, none⟩ = some (.func (.func g) #[] lb)) :
  CB Tryz.prog jX (fun cs => Value.agg cs.toArray) 101 #[.pointer (some ⟨B, 0, none⟩)] (fun x => (f x).map not) xs w := by
   intro W x cs b hb hm hK hf; obtain ⟨t, ht, rfl⟩ := Option.map_eq_some_iff.1 hf; have F3 := hK; have hc' : W.cell? ⟨B, 0, none⟩ = some (.func (.func g) #[] lb) := (hb.cell (p := ⟨B, 0, none⟩) hB).trans hc; obtain ⟨aA6, aC6, rfl, _, _⟩ := zY hK; (have hcall : ∀ W1, Below W.heap.size W W1 → Calls Tryz.prog g (#[(.agg #[(.int .i64 x.f0), (.int .i64 x.f1), (.int .i64 x.f2.f0), (.int .i64 x.f2.f1), (.string x.f2.f2), (.string x.f3), (.slice aA6 x.f4.length aC6)])] ++ lb) W1 (fun e w' => e = .returned (.bool t) ∧ Below W1.heap.size W1 w') := fun W1 h1 => hp W1 x _ t (hb.trans (h1.mono hb.size)) hm (Kd.K_below _ h1 F3) ht); (have hcd := fun o : Obj => aBn o hc'); (have HN := am_ (show B ≠ W.heap.size from fun e => by have := hb.size; omega)); clear hp hf hK F3 hm hb hc ht; have hBW := HN.out; have hBW' := Ne.symm hBW
   show Calls Tryz.prog 101 #[(.agg #[(.int .i64 x.f0), (.int .i64 x.f1), (.int .i64 x.f2.f0), (.int .i64 x.f2.f1), (.string x.f2.f2), (.string x.f3), (.slice aA6 x.f4.length aC6)]), .pointer (some ⟨B, 0, none⟩)] W _
   go_enter Tryz.func101, Tryz.ntmps101
   go_wp2_with (go_at_fn g; refine (hcall _ (by first | exact Below.refl _ _ | exact aAi (Below.refl _ _) _)).mono ?_; rintro e w' ⟨rfl, hb'⟩)
   go_ret
   (exact ⟨rfl, by first | exact hb' | exact (aAi (Below.refl _ _) _ : Below W.heap.size W _).trans (hb'.mono (by simp))⟩)
theorem AO.calls (f : S39 → Option Bool) (g : Nat) (lb : Array Value) (eg : ∀ args w, (callFunc g args).run Tryz.prog w = .ok (.enter g args) w) (A : Option Addr) (c : Nat) (xs : List S39) (r : Bool) (w : World) (hr : Kd.C jX w A xs.length xs) (hp : CB Tryz.prog jX (fun cs => Value.agg cs.toArray) g lb f xs w) (h : aHn f xs = some r) :
  Calls Tryz.prog 75 #[.slice A xs.length c, .func (.func g) #[] lb] w fun e w' => e = .returned (.bool r) ∧ Below w.heap.size w w' := by
 obtain ⟨j, hj, hjr⟩ := aEw h 0 (Int.le_refl _)
 have e_l : ∀ args w, (callFunc 101 args).run Tryz.prog w = .ok (.enter 101 args) w := enters_of Tryz.func101 (by kernel_rfl) rfl
 have hB0 : Below w.heap.size w (w.alloc (.cells #[.func (.func g) #[] lb] 115)) := aAi (Below.refl _ _) _
 have hp1 := CB.later hB0 hp
 have hnot := AO.not f g lb eg w.heap.size xs _ (by simp) hp1 (by simp)
 have hcall := SL.calls _ 101 _ e_l A c xs j _ (Kd.aAp hr hB0) hnot hj
 have HJ := am_ hjr
 clear hr hp h hjr hj hp1 hnot hB0
 go_enter Tryz.func75, Tryz.ntmps75
 go_wp2_with (go_at_call 100; refine hcall.mono ?_; rintro e w' ⟨rfl, hb'⟩)
 go_ret
 exact ⟨aDj (by rw [HJ.out]; cases r <;> rfl), (aAi (Below.refl _ _) _ : Below w.heap.size w _).trans (hb'.mono (by simp))⟩

def mI.f (a0 : Int) : Option Bool := (dF.f a0 0 11).bind fun bCH => (some bCH)
theorem mI.calls (a0 : Int) (r : Bool) (w : World) (h : mI.f a0 = some r) :
  Calls Tryz.prog 131 #[.int .i64 a0] w fun e w' => e = .returned (.bool r) ∧ aAu w w' := by
 have H : ((dF.f a0 0 11).bind fun bCH => (some bCH)) = some r := h
 clear h
 replace H := aBp H
 obtain ⟨bCH, BB, H⟩ := H
 try dsimp only at H
 have A2 := am_ BB
 clear BB
 obtain rfl := Option.some.inj H
 go_enter Tryz.func131, Tryz.ntmps131
 go_wp2_with (first | ((with_reducible refine aAa (f := 77) rfl ?_); refine aBh (some 4) Tryz.func77 #[.int .i64 a0, .int .i64 0, .int .i64 11] ?_; (with_reducible refine (dF.calls _ _ _ _ _ A2.out).mono ?_); rintro e w' ⟨rfl, ⟨nd, rfl⟩⟩; refine ⟨_, rfl, ?_⟩))
 go_ret
 exact ⟨by first | rfl | (simp; done) | (simp [*]; done), by repeat (first | exact aAu.refl _ | apply aAu.step)⟩

def uZ.f  : Option (Int × Int × ByteArray) := some (0, 0, (⟨#[]⟩ : ByteArray))
theorem uZ.calls  (r1 r2 : Int) (r3 : ByteArray) (w : World) (h : uZ.f  = some (r1, r2, r3)) :
  Calls Tryz.prog 132 #[] w fun e w' => e = .returned (.agg #[.int .i64 r1, .int .i64 r2, .string r3]) ∧ Below w.heap.size w w' := by
 have QU := Tryz.underlying36
 have HB := am_ (Below.refl w.heap.size w)
 have H : (some (0, 0, (⟨#[]⟩ : ByteArray))) = some (r1, r2, r3) := h
 clear h
 simp only [Option.some.injEq, Prod.mk.injEq] at H
 obtain ⟨rfl, rfl, rfl⟩ := H
 go_enter Tryz.func132, Tryz.ntmps132
 go_wp2_with (first | ((with_reducible refine aAc (N := 0) rfl ?_); refine bx_ 0 #[.int .i64 0, .int .i64 0, .string (⟨#[]⟩ : ByteArray)] 36 ?_; intro c9W hg w1 hbox hb; have bPF := am_ (hbox); have d7R := gw_ hg; replace HB := bs_ hb; clear hb hbox hg; obtain ⟨d6A, d3L, d79, d5X, d21, d2P⟩ := b3_ bPF))
 refine bodyPost_ret (results_cell_row rfl _ _ c9W 36 #[.int .i64 0, .int .i64 0, .string (⟨#[]⟩ : ByteArray)] (0, 0) _ rfl (aWh (aBx bPF.out)) Tryz.underlying36 rfl (by kernel_rfl)) rfl ?_
 exact ⟨er_, bb_⟩

def bL.l0 : Nat → List ByteArray → ByteArray → Int → Int → Option Int
 | 0, _, _, _, _ => none
 | k + 1, x0, x1, x7, x8 => if x8 < x7 then (if 0 ≤ x8 then (if x8 < (x0.length : Int) then (if x1.toList = (aGm ByteArray.empty x0 x8).toList then (some x8) else (bL.l0 k x0 x1 x7 (wrap64 (x8 + 1)))) else (none)) else (none)) else (some (-1))
def bL.f (k : Nat) (l0 : List ByteArray) (a1 : ByteArray) : Option Int := bL.l0 k l0 a1 (l0.length : Int) 0
theorem bL.calls (k : Nat) (A0 : Option Addr) (c0 : Nat) (l0 : List ByteArray) (a1 : ByteArray) (r : Int) (w : World) (hr0 : Kd.C Kd.string w A0 l0.length l0) (hc0 : l0.length ≤ c0) (h : bL.f k l0 a1 = some r) :
  Calls Tryz.prog 151 #[.slice A0 l0.length c0, .string a1] w fun e w' => e = .returned (.int .i64 r) ∧ aAu w w' := by
 have jY := am_ hr0
 have oQ := am_ hc0
 clear hr0 hc0
 have H : (bL.l0 k l0 a1 (l0.length : Int) 0) = some r := h
 clear h
 have H' := am_ H
 clear H
 go_enter Tryz.func151, Tryz.ntmps151
 go_wp2
 go_loopg [8] k (fun kq v8 w' => ∃ (gU : Int), v8 = .int .i64 gU ∧ Aside0 (bL.l0 kq l0 a1 (l0.length : Int) gU = some r) ∧ Aside0 (kq ≤ k) ∧ aAu w w')
 case atStart => exact ⟨(0), rs_, H', ⟨Nat.le_refl _⟩, by repeat (first | exact aAu.refl _ | apply aAu.step)⟩
 case round =>
  clear H'; (try clear c1); (try clear p2); obtain ⟨gU, rfl, HA, jK, ⟨m1, rfl⟩⟩ := hrel
  cases gk with
  | zero => exact absurd HA.out (by simp [bL.l0])
  | succ k1 =>
   have H := HA.out; clear HA; simp only [bL.l0] at H
   by_cases c3 : gU < (l0.length : Int)
   ·rw [if_pos c3] at H
    have fC := decide_eq_true c3; clear c3
    by_cases c4 : 0 ≤ gU
    ·rw [if_pos c4] at H
     have iB := decide_eq_true c4; clear c4
     by_cases c5 : gU < (l0.length : Int)
     ·rw [if_pos c5] at H
      have pV := decide_eq_true c5; clear c5; have gY := am_ H; clear H; (have bW3 : 0 ≤ (gU : Int) := oa_); (have bXJ : gU < (l0.length : Int) := oa_); obtain ⟨dA8, d44, cXH⟩ := Kd.aGd jY.out gU bW3 bXJ; cases d44; replace bW3 := eq_true bW3; replace bXJ := eq_true bXJ; have H := gY.out; clear gY
      by_cases c6 : a1.toList = (aGm ByteArray.empty l0 gU).toList
      ·rw [if_pos c6] at H
       have mY : (a1.toList == (aGm ByteArray.empty l0 gU).toList) = true := beq_iff_eq.mpr c6; have aK0 : (a1.toList != (aGm ByteArray.empty l0 gU).toList) = false := bne_eq_false_iff_eq.mpr c6; clear c6; obtain rfl := Option.some.inj H
       go_wp2
       go_ret
       (exact ⟨by first | rfl | (simp; done) | (simp [*]; done), by repeat (first | exact aAu.refl _ | apply aAu.step)⟩)
      ·rw [if_neg c6] at H
       have mY : (a1.toList == (aGm ByteArray.empty l0 gU).toList) = false := beq_eq_false_iff_ne.mpr c6; have aK0 : (a1.toList != (aGm ByteArray.empty l0 gU).toList) = true := bne_iff_ne.mpr c6; have H' := am_ H; clear H
       go_wp2
       go_roundg k1
       case measure => have := jK.out; omega
       case rel => exact ⟨(wrap64 (gU + 1)), rs_, H', ⟨by have := jK.out; omega⟩, by repeat (first | exact aAu.refl _ | apply aAu.step)⟩
     ·rw [if_neg c5] at H
      exact nn_ H
    ·rw [if_neg c4] at H
     exact nn_ H
   ·rw [if_neg c3] at H
    have fC := decide_eq_false c3; clear c3; obtain rfl := Option.some.inj H
    go_wp2
    go_ret
    (exact ⟨by first | rfl | (simp; done) | (simp [*]; done), by repeat (first | exact aAu.refl _ | apply aAu.step)⟩)
end Go.Proofs.YtnobhkmpkichdaaGreat.PFnExactViewsOk
