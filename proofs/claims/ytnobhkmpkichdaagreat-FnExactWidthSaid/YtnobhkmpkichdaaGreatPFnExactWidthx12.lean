-- WRITTEN BY xprint.py, a program of this session over the kit's printer: by nobody's hand
-- PRESSED4 -- PRESSED TWICE3 -- PRESSED TWICE
import Derived.Test.YtnobhkmpkichdaaGreatPress
import Derived.Test.YtnobhkmpkichdaaGreatPress3
import Derived.Test.YtnobhkmpkichdaaGreatPFnExactWidthx0
import Derived.Test.YtnobhkmpkichdaaGreatPFnExactWidthx1
namespace Go.Proofs.YtnobhkmpkichdaaGreat.PFnExactWidth
open Go.RowKit Go.Proofs.YtnobhkmpkichdaaGreatW.PrintWords Go.Proofs.YtnobhkmpkichdaaGreatW.PrintLast Go.Proofs.YtnobhkmpkichdaaGreatW.PrintMore
attribute [local go_sem] max2_int min2_int max_two min_two max_three min_three max_four min_four
set_option linter.unusedVariables false
set_option linter.unusedSimpArgs false

attribute [local go_sem high] aIF
/-! ### impl_sameExp: function 115 -/
mutual
def impl_sameExp.j0 : Nat → Int → Bool → Int → Int → Int → Int → ByteArray → ByteArray → List (S39) → Int → Int → Int → Int → ByteArray → ByteArray → List (S39) → Option (Bool)
 | 0, _, _, _, _, _, _, _, _, _, _, _, _, _, _, _, _ => none
 | k + 1, x2, x46, a7A, a5H, a5S, a1Z, a6O, a1D, mH, a1K, a3E, a9M, a9F, a7C, a2V, p8 => if x46 = true then (some false) else (impl_sameExp.l0 k x2 (mH.length : Int) 0 a7A a5H a5S a1Z a6O a1D mH a1K a3E a9M a9F a7C a2V p8)
def impl_sameExp.l0 : Nat → Int → Int → Int → Int → Int → Int → Int → ByteArray → ByteArray → List (S39) → Int → Int → Int → Int → ByteArray → ByteArray → List (S39) → Option (Bool)
 | 0, _, _, _, _, _, _, _, _, _, _, _, _, _, _, _, _, _ => none
 | k + 1, x2, x49, x50, a7A, a5H, a5S, a1Z, a6O, a1D, mH, a1K, a3E, a9M, a9F, a7C, a2V, p8 => if x50 < x49 then (if 0 ≤ x50 then (if x50 < (mH.length : Int) then (if x50 < (p8.length : Int) then ((impl_sameExp.f k ((rd_T39 mH x50).f0) ((rd_T39 mH x50).f1) ((rd_T39 mH x50).f2.f0) ((rd_T39 mH x50).f2.f1) ((rd_T39 mH x50).f2.f2) ((rd_T39 mH x50).f3) ((rd_T39 mH x50).f4) ((rd_T39 p8 x50).f0) ((rd_T39 p8 x50).f1) ((rd_T39 p8 x50).f2.f0) ((rd_T39 p8 x50).f2.f1) ((rd_T39 p8 x50).f2.f2) ((rd_T39 p8 x50).f3) ((rd_T39 p8 x50).f4) (wrap64 (x2 + 1))).bind fun bCR => (if bCR = true then (impl_sameExp.l0 k x2 x49 (wrap64 (x50 + 1)) a7A a5H a5S a1Z a6O a1D mH a1K a3E a9M a9F a7C a2V p8) else (some false))) else (none)) else (none)) else (none)) else (some true)
def impl_sameExp.f : Nat → Int → Int → Int → Int → ByteArray → ByteArray → List (S39) → Int → Int → Int → Int → ByteArray → ByteArray → List (S39) → Int → Option (Bool)
 | 0, _, _, _, _, _, _, _, _, _, _, _, _, _, _, _ => none
 | k + 1, aD, aI, aJ, aM, aN, aQ, aV, bH, bL, bP, bW, bV, bX, dK, a2 => if aD = bH then (if aI = bL then (if (!(aJ == bP) || (!(aM == bW) || (!(aN.toList == bV.toList)))) = true then (impl_sameExp.j0 k a2 true aD aI aJ aM aN aQ aV bH bL bP bW bV bX dK) else (if aQ.toList = bX.toList then (if (aV.length : Int) = (dK.length : Int) then (impl_sameExp.j0 k a2 (decide (a2 > 40)) aD aI aJ aM aN aQ aV bH bL bP bW bV bX dK) else (impl_sameExp.j0 k a2 true aD aI aJ aM aN aQ aV bH bL bP bW bV bX dK)) else (impl_sameExp.j0 k a2 true aD aI aJ aM aN aQ aV bH bL bP bW bV bX dK))) else (impl_sameExp.j0 k a2 true aD aI aJ aM aN aQ aV bH bL bP bW bV bX dK)) else (impl_sameExp.j0 k a2 true aD aI aJ aM aN aQ aV bH bL bP bW bV bX dK)
end
def impl_sameExp.T6 : Bool × List (List Nat × List Nat) := (true, [([], []), ([0], [0]), ([], []), ([1, 2], [1, 2]), ([3], [3]), ([], []), ([5], [5]), ([], []), ([6, 7], [6, 7]), ([8], [8]), ([], []), ([10], [10]), ([4, 9, 11], [4, 9, 11]), ([12], [12])])
def impl_sameExp.B6 : List Nat := [0, 1, 0, 7, 15, 0, 32, 0, 224, 480, 0, 1024, 4095, 8191]
theorem impl_sameExp.zI : rtab .any (opsOf Tryz.f115 6) = impl_sameExp.T6 := by kernel_rfl
theorem impl_sameExp.nJ : waitsOk impl_sameExp.T6.2 impl_sameExp.B6 = true := by kernel_rfl
set_option maxHeartbeats 8000000 in
set_option maxRecDepth 100000 in
theorem impl_sameExp.calls (k : Nat) : ∀ (aD : Int) (aI : Int) (aJ : Int) (aM : Int) (aN : ByteArray) (aQ : ByteArray) (dL : Option Addr) (dJ : Nat) (aV : List (S39)) (bH : Int) (bL : Int) (bP : Int) (bW : Int) (bV : ByteArray) (bX : ByteArray) (q8 : Option Addr) (nS : Nat) (dK : List (S39)) (a2 : Int) (r : Bool) (w : World) (eX : Kd.C gL w dL aV.length aV) (eU : aV.length ≤ dJ) (DI : Kd.C gL w q8 dK.length dK) (DJ : dK.length ≤ nS) (h : impl_sameExp.f k aD aI aJ aM aN aQ aV bH bL bP bW bV bX dK a2 = some r),
  Calls Tryz.prog 115 #[.agg #[.int .i64 aD, .int .i64 aI, .int .i64 aJ, .int .i64 aM, .string aN, .string aQ, .slice dL aV.length dJ], .agg #[.int .i64 bH, .int .i64 bL, .int .i64 bP, .int .i64 bW, .string bV, .string bX, .slice q8 dK.length nS], .int .i64 a2] w fun e w' => e = .returned (.bool r) ∧ Below w.heap.size w w' := by
 induction k using Nat.strongRecOn with
 | _ k ih =>
 intro aD aI aJ aM aN aQ dL dJ aV bH bL bP bW bV bX q8 nS dK a2 r w eX eU DI DJ h
 cases k with
 | zero => exact absurd h (by simp [impl_sameExp.f])
 | succ k =>
 simp only [impl_sameExp.f] at h
 have vN := Tryz.underlying39
 have XJ := Tryz.underlying36
 have gD := am_ eX
 have gW := am_ eU
 clear eX eU
 have ZF := am_ DI
 have a9X := am_ DJ
 clear DI DJ
 have HB := am_ (Below.refl w.heap.size w)
 have H : (if aD = bH then (if aI = bL then (if (!(aJ == bP) || (!(aM == bW) || (!(aN.toList == bV.toList)))) = true then (impl_sameExp.j0 k a2 true aD aI aJ aM aN aQ aV bH bL bP bW bV bX dK) else (if aQ.toList = bX.toList then (if (aV.length : Int) = (dK.length : Int) then (impl_sameExp.j0 k a2 (decide (a2 > 40)) aD aI aJ aM aN aQ aV bH bL bP bW bV bX dK) else (impl_sameExp.j0 k a2 true aD aI aJ aM aN aQ aV bH bL bP bW bV bX dK)) else (impl_sameExp.j0 k a2 true aD aI aJ aM aN aQ aV bH bL bP bW bV bX dK))) else (impl_sameExp.j0 k a2 true aD aI aJ aM aN aQ aV bH bL bP bW bV bX dK)) else (impl_sameExp.j0 k a2 true aD aI aJ aM aN aQ aV bH bL bP bW bV bX dK)) = some r := h
 clear h
 have HC4 := am_ H
 clear H
 go_enter Tryz.func115, Tryz.ntmps115
 go_upto_region 1 with (first | ((with_reducible refine gate_dst (N := 3) rfl ?_); (try (refine gate_guard (by rfl) ?_; dsimp only)); refine bx_ 3 #[.int .i64 aD, .int .i64 aI, .int .i64 aJ, .int .i64 aM, .string aN, .string aQ, .slice dL aV.length dJ] 39 ?_; intro rH hg w5 hbox hb; have eF := am_ (hbox); have d0F := gw_ hg; have d1W := gw_ hg; replace HB := bs_ hb; clear hb hbox hg) | ((with_reducible refine gate_dst (N := 4) rfl ?_); (try (refine gate_guard (by rfl) ?_; dsimp only)); refine bx_ 4 #[.int .i64 bH, .int .i64 bL, .int .i64 bP, .int .i64 bW, .string bV, .string bX, .slice q8 dK.length nS] 39 ?_; intro rJ hg w6 hbox hb; have eT := am_ (hbox); have d0B := gw_ hg; have cYW := gw_ hg; have qA := nl_ hg eF; have qE := ng_ hg eF; replace eF := bkb_ eF hb; replace HB := bs_ hb; clear hb hbox hg))
 (try simp only [Act.put, List.setIfInBounds_toArray, List.set_cons_zero, List.set_cons_succ])
 go_cut [46] (fun v46 wc => ∃ (kq : Nat) (aJ6 : Bool), v46 = .bool aJ6 ∧ Aside0 (impl_sameExp.j0 kq a2 aJ6 aD aI aJ aM aN aQ aV bH bL bP bW bV bX dK = some r) ∧ Aside0 (kq ≤ k) ∧ Aside0 (wc.heap[rH]? = some (.cells #[.int .i64 aD, .int .i64 aI, .int .i64 aJ, .int .i64 aM, .string aN, .string aQ, (.slice dL aV.length dJ)] 39 (0, 0))) ∧ Aside0 (wc.heap[rJ]? = some (.cells #[.int .i64 bH, .int .i64 bL, .int .i64 bP, .int .i64 bW, .string bV, .string bX, (.slice q8 dK.length nS)] 39 (0, 0))) ∧ Aside0 (Below w.heap.size w wc))
 case first =>
  have H := HC4.out; clear HC4
  by_cases c7 : aD = bH
  ·rw [if_pos c7] at H
   have gJ : (aD == bH) = true := beq_iff_eq.mpr c7; have CF : (aD != bH) = false := bne_eq_false_iff_eq.mpr c7; clear c7; (first | rw [gJ] | (simp only [i64_w, i32_w]; rw [gJ]) | skip)
   by_cases c8 : aI = bL
   ·rw [if_pos c8] at H
    have LG : (aI == bL) = true := beq_iff_eq.mpr c8; have aBL : (aI != bL) = false := bne_eq_false_iff_eq.mpr c8; clear c8
    by_cases c9 : (!(aJ == bP) || (!(aM == bW) || (!(aN.toList == bV.toList)))) = true
    ·rw [if_pos c9] at H
     (have yP : (!(aJ == bP) || (!(aM == bW) || (!(aN.toList == bV.toList)))) = true := c9); clear c9; have H' := am_ H; clear H; have bWQ := qA.out; have bLD := qE.out; obtain ⟨O3, RH, M0, O6, NM, MP, QL, OL, OO, NG, QH, PD, RY, RI⟩ := b7_ eF; obtain ⟨oW, nT, sV, CQ, AO, zO, zX, pG, oM, uD, CS, BP, CY, BB⟩ := b7_ eT
     go_wp2
     go_meet
     case rel => exact ⟨_, (true), rs_, H', ⟨by first | omega | exact Nat.le_refl _⟩, ⟨bkx_ eF.out⟩, ⟨bkx_ eT.out⟩, ⟨bb_⟩⟩
    ·rw [if_neg c9] at H
     (have yP : (!(aJ == bP) || (!(aM == bW) || (!(aN.toList == bV.toList)))) = false := by simpa using c9); clear c9
     by_cases c13 : aQ.toList = bX.toList
     ·rw [if_pos c13] at H
      have G7 : (aQ.toList == bX.toList) = true := beq_iff_eq.mpr c13; have a0L : (aQ.toList != bX.toList) = false := bne_eq_false_iff_eq.mpr c13; clear c13
      by_cases c14 : (aV.length : Int) = (dK.length : Int)
      ·rw [if_pos c14] at H
       have X5 : ((aV.length : Int) == (dK.length : Int)) = true := beq_iff_eq.mpr c14; have aTH : ((aV.length : Int) != (dK.length : Int)) = false := bne_eq_false_iff_eq.mpr c14; (have aUW : (aV.length == dK.length) = true := by first | simpa using c14 | (simp at c14 ⊢; omega)); clear c14; have H' := am_ H; clear H; have cZI := qA.out; have cZW := qE.out; obtain ⟨mO, mY, oV, qU, qQ, qR, qN, mQ, mG, nX, qK, qG, qJ, qM⟩ := b7_ eF; obtain ⟨pO, oO, qL, wQ, y8, x9, xK, pM, o6, qH, yB, wT, wO, xU⟩ := b7_ eT
       go_wp2
       go_meet
       case rel => exact ⟨_, (decide (a2 > 40)), rs_, H', ⟨by first | omega | exact Nat.le_refl _⟩, ⟨bkx_ eF.out⟩, ⟨bkx_ eT.out⟩, ⟨bb_⟩⟩
      ·rw [if_neg c14] at H
       have X5 : ((aV.length : Int) == (dK.length : Int)) = false := beq_eq_false_iff_ne.mpr c14; have aTH : ((aV.length : Int) != (dK.length : Int)) = true := bne_iff_ne.mpr c14; (have aUW : (aV.length == dK.length) = false := by first | simpa using c14 | (simp at c14 ⊢; omega)); have H' := am_ H; clear H; have bWX := qA.out; have cBA := qE.out; obtain ⟨y7, wZ, xZ, BO, BH, zM, D8, wV, wK, xN, AL, C9, BN, AB⟩ := b7_ eF; obtain ⟨xC, xB, D5, IG, GU, GI, GL, wM, wY, zW, GH, GR, GJ, IA⟩ := b7_ eT
       go_wp2
       go_meet
       case rel => exact ⟨_, (true), rs_, H', ⟨by first | omega | exact Nat.le_refl _⟩, ⟨bkx_ eF.out⟩, ⟨bkx_ eT.out⟩, ⟨bb_⟩⟩
     ·rw [if_neg c13] at H
      have G7 : (aQ.toList == bX.toList) = false := beq_eq_false_iff_ne.mpr c13; have a0L : (aQ.toList != bX.toList) = true := bne_iff_ne.mpr c13; have H' := am_ H; clear H; have bKV := qA.out; have c66 := qE.out; obtain ⟨GY, H9, QI, WO, V5, VP, WQ, II, GG, P5, VK, VM, V7, VS⟩ := b7_ eF; obtain ⟨lC, kV, kX, oZ, pK, pF, oI, l7, kZ, kW, oU, o9, o7, pI⟩ := b7_ eT
      go_wp2
      go_meet
      case rel => exact ⟨_, (true), rs_, H', ⟨by first | omega | exact Nat.le_refl _⟩, ⟨bkx_ eF.out⟩, ⟨bkx_ eT.out⟩, ⟨bb_⟩⟩
   ·rw [if_neg c8] at H
    have LG : (aI == bL) = false := beq_eq_false_iff_ne.mpr c8; have aBL : (aI != bL) = true := bne_iff_ne.mpr c8; have H' := am_ H; clear H; have cAJ := qA.out; have bZR := qE.out; obtain ⟨mU, mX, pQ, wP, y9, xM, xI, mP, mR, oJ, yC, yD, xP, xS⟩ := b7_ eF; obtain ⟨OW, M8, WJ, WI, VU, WP, WC, S9, LP, UY, VV, VO, VW, WH⟩ := b7_ eT
    go_wp2
    go_meet
    case rel => exact ⟨_, (true), rs_, H', ⟨by first | omega | exact Nat.le_refl _⟩, ⟨bkx_ eF.out⟩, ⟨bkx_ eT.out⟩, ⟨bb_⟩⟩
  ·rw [if_neg c7] at H
   have gJ : (aD == bH) = false := beq_eq_false_iff_ne.mpr c7; have CF : (aD != bH) = true := bne_iff_ne.mpr c7; (first | rw [gJ] | (simp only [i64_w, i32_w]; rw [gJ]) | skip); have H' := am_ H; clear H; have cYS := qA.out; have cZD := qE.out; obtain ⟨I4, GN, H8, G9, GV, GZ, IZ, I5, HY, GA, IW, H5, GM, IR⟩ := b7_ eF; obtain ⟨aJP, aI7, aN7, aLO, aNP, aGH, aJ9, aMV, aMU, aI6, aIE, aNC, aL7, aK1⟩ := b7_ eT
   go_wp2
   go_meet
   case rel => exact ⟨_, (true), rs_, H', ⟨by first | omega | exact Nat.le_refl _⟩, ⟨bkx_ eF.out⟩, ⟨bkx_ eT.out⟩, ⟨bb_⟩⟩
 case rest =>
  clear HC4; (try clear c1); (try clear c2); (try clear p2); (try clear c7); (try clear gJ); (try clear CF); (try clear c8); (try clear LG); (try clear aBL); (try clear c9); (try clear yP); (try clear c10); (try clear c11); (try clear c13); (try clear G7); (try clear a0L); (try clear c14); (try clear X5); (try clear aTH); (try clear aUW); (try clear c15); (try clear c18); (try clear c21); (try clear c24); (try clear c27); (try clear O3 RH M0 O6 NM MP QL); (try clear oW nT sV CQ AO zO zX); (try clear mO mY oV qU qQ qR qN); (try clear pO oO qL wQ y8 x9 xK); (try clear y7 wZ xZ BO BH zM D8); (try clear xC xB D5 IG GU GI GL); (try clear GY H9 QI WO V5 VP WQ); (try clear lC kV kX oZ pK pF oI); (try clear mU mX pQ wP y9 xM xI); (try clear OW M8 WJ WI VU WP WC); (try clear I4 GN H8 G9 GV GZ IZ); (try clear aJP aI7 aN7 aLO aNP aGH aJ9); (try clear OL OO NG QH PD RY RI); (try clear pG oM uD CS BP CY BB); (try clear mQ mG nX qK qG qJ qM); (try clear pM o6 qH yB wT wO xU); (try clear wV wK xN AL C9 BN AB); (try clear wM wY zW GH GR GJ IA); (try clear II GG P5 VK VM V7 VS); (try clear l7 kZ kW oU o9 o7 pI); (try clear mP mR oJ yC yD xP xS); (try clear S9 LP UY VV VO VW WH); (try clear I5 HY GA IW H5 GM IR); (try clear aMV aMU aI6 aIE aNC aL7 aK1); obtain ⟨kq, aJ6, rfl, HA, HJ3, eF, eT, HB⟩ := hcut
  cases kq with
  | zero => exact absurd HA.out (by simp [impl_sameExp.j0])
  | succ kj3 =>
   have H := HA.out; clear HA; simp only [impl_sameExp.j0] at H
   by_cases c30 : aJ6 = true
   ·subst c30
    rw [if_pos rfl] at H; obtain rfl := Option.some.inj H
    go_wp2
    go_ret
    exact ⟨er_, bb_⟩
   ·replace c30 := Bool.eq_false_iff.mpr c30
    subst c30; (rw [if_neg (show ¬ (false = true) by decide)] at H); have H' := am_ H; clear H; have cY7 := qA.out; have cZF := qE.out; obtain ⟨AR, AC, CV, CP, CX, BU, zS, BJ, BM, AX, CE, BA, BV, BL⟩ := b7_ eF
    go_wp2
    go_loopg [50] kj3 (fun kq v50 w' => ∃ (bO : Int), v50 = .int .i64 bO ∧ Aside0 (impl_sameExp.l0 kq a2 (aV.length : Int) bO aD aI aJ aM aN aQ aV bH bL bP bW bV bX dK = some r) ∧ Aside0 (kq ≤ kj3) ∧ Aside0 (w'.heap[rH]? = some (.cells #[.int .i64 aD, .int .i64 aI, .int .i64 aJ, .int .i64 aM, .string aN, .string aQ, (.slice dL aV.length dJ)] 39 (0, 0))) ∧ Aside0 (w'.heap[rJ]? = some (.cells #[.int .i64 bH, .int .i64 bL, .int .i64 bP, .int .i64 bW, .string bV, .string bX, (.slice q8 dK.length nS)] 39 (0, 0))) ∧ Aside0 (Below w.heap.size w w'))
    case atStart => exact ⟨(0), rs_, H', ⟨Nat.le_refl _⟩, ⟨bkx_ eF.out⟩, ⟨bkx_ eT.out⟩, ⟨bb_⟩⟩
    case round =>
     clear H'; (try clear c1); (try clear c2); (try clear p2); (try clear c3); (try clear c7); (try clear gJ); (try clear CF); (try clear c8); (try clear LG); (try clear aBL); (try clear c9); (try clear yP); (try clear c10); (try clear c11); (try clear c13); (try clear G7); (try clear a0L); (try clear c14); (try clear X5); (try clear aTH); (try clear aUW); (try clear c15); (try clear c18); (try clear c21); (try clear c24); (try clear c27); (try clear c30); (try clear c31); (try clear O3 RH M0 O6 NM MP QL); (try clear oW nT sV CQ AO zO zX); (try clear mO mY oV qU qQ qR qN); (try clear pO oO qL wQ y8 x9 xK); (try clear y7 wZ xZ BO BH zM D8); (try clear xC xB D5 IG GU GI GL); (try clear GY H9 QI WO V5 VP WQ); (try clear lC kV kX oZ pK pF oI); (try clear mU mX pQ wP y9 xM xI); (try clear OW M8 WJ WI VU WP WC); (try clear I4 GN H8 G9 GV GZ IZ); (try clear aJP aI7 aN7 aLO aNP aGH aJ9); (try clear AR AC CV CP CX BU zS); (try clear OL OO NG QH PD RY RI); (try clear pG oM uD CS BP CY BB); (try clear mQ mG nX qK qG qJ qM); (try clear pM o6 qH yB wT wO xU); (try clear wV wK xN AL C9 BN AB); (try clear wM wY zW GH GR GJ IA); (try clear II GG P5 VK VM V7 VS); (try clear l7 kZ kW oU o9 o7 pI); (try clear mP mR oJ yC yD xP xS); (try clear S9 LP UY VV VO VW WH); (try clear I5 HY GA IW H5 GM IR)
     (try clear aMV aMU aI6 aIE aNC aL7 aK1); (try clear BJ BM AX CE BA BV BL); (try clear p2); obtain ⟨bO, rfl, HA, HK2, eF, eT, HB⟩ := hrel
     cases gk with
     | zero => exact absurd HA.out (by simp [impl_sameExp.l0])
     | succ k2 =>
      have H := HA.out; clear HA; simp only [impl_sameExp.l0] at H
      by_cases c33 : bO < (aV.length : Int)
      ·rw [if_pos c33] at H
       have c8N := decide_eq_true c33; clear c33
       by_cases c34 : 0 ≤ bO
       ·rw [if_pos c34] at H
        have b6I := decide_eq_true c34; clear c34
        by_cases c35 : bO < (aV.length : Int)
        ·rw [if_pos c35] at H
         have cZC := decide_eq_true c35; clear c35
         by_cases c36 : bO < (dK.length : Int)
         ·rw [if_pos c36] at H
          have cZ8 := decide_eq_true c36; clear c36; replace H := bsi_ H; obtain ⟨bCR, bU3, H⟩ := H
          try dsimp only at H
          have A37 := am_ bU3; clear bU3
          by_cases c38 : bCR = true
          ·subst c38
           rw [if_pos rfl] at H; have H' := am_ H; clear H
           try go_wp2
           replace eF := am_ (blk_drew eF.out); replace eT := am_ (blk_drew eT.out); replace HB := am_ (below_drew1 HB.out); (have aD8 : 0 ≤ (bO : Int) := oa_); (have aDT : bO < (aV.length : Int) := oa_); obtain ⟨iG, XE, ZH, b8U, sW, vE, uY, sO, sS, uX, rX, JN, LX⟩ := pE gD.out bO aD8 aDT; have O1 := rX; have NI := uX; have MH := sS; have QR := sO; have QY := uY; have Q8 := vE; have Q3 := sW; cases b8U; replace sW := hb_ HB sW; replace vE := hb_ HB vE; replace uY := hb_ HB uY; replace sO := hb_ HB sO; replace sS := hb_ HB sS; replace uX := hb_ HB uX; replace rX := hb_ HB rX; have L9 := am_ LX; have a5Y := am_ JN; clear LX JN; replace aD8 := eq_true aD8; replace aDT := eq_true aDT; (have aD9 : 0 ≤ (bO : Int) := oa_); (have aFN : bO < (dK.length : Int) := oa_); obtain ⟨iQ, WT, YU, bDE, sH, uN, tN, sF, sP, uF, uB, MN, OZ⟩ := pE ZF.out bO aD9 aFN; have QJ := uB; have KV := uF; have LD := sP; have QA := sF; have KL := tN; have LB := uN; have SK := sH; cases bDE; replace sH := hb_ HB sH; replace uN := hb_ HB uN; replace tN := hb_ HB tN; replace sF := hb_ HB sF; replace sP := hb_ HB sP; replace uF := hb_ HB uF; replace uB := hb_ HB uB; have NC := am_ OZ; have a5W := am_ MN; clear OZ MN; replace aD9 := eq_true aD9; replace aFN := eq_true aFN; (refine start_ (n := 14) (S := fun w' => w'.cell? ⟨rH, 0, none⟩ = some (.int .i64 aD) ∧ w'.cell? ⟨rH, 1, none⟩ = some (.int .i64 aI) ∧ w'.cell? ⟨rH, 2, none⟩ = some (.int .i64 aJ) ∧ w'.cell? ⟨rH, 3, none⟩ = some (.int .i64 aM) ∧ w'.cell? ⟨rH, 4, none⟩ = some (.string aN) ∧ w'.cell? ⟨rH, 5, none⟩ = some (.string aQ) ∧ w'.cell? ⟨rH, 6, none⟩ = some (.slice (some iG) aV.length dJ) ∧ w'.cell? ⟨rJ, 0, none⟩ = some (.int .i64 bH) ∧ w'.cell? ⟨rJ, 1, none⟩ = some (.int .i64 bL) ∧ w'.cell? ⟨rJ, 2, none⟩ = some (.int .i64 bP) ∧ w'.cell? ⟨rJ, 3, none⟩ = some (.int .i64 bW) ∧ w'.cell? ⟨rJ, 4, none⟩ = some (.string bV) ∧ w'.cell? ⟨rJ, 5, none⟩ = some (.string bX) ∧ w'.cell? ⟨rJ, 6, none⟩ = some (.slice (some iQ) dK.length nS) ∧ w'.cell? (iG.add ((bO).toNat * 7)) = some (.int .i64 ((rd_T39 aV bO).f0)) ∧ w'.cell? ⟨(iG.add ((bO).toNat * 7)).block, (iG.add ((bO).toNat * 7)).off + 1, none⟩ = some (.int .i64 ((rd_T39 aV bO).f1)) ∧ w'.cell? ⟨(iG.add ((bO).toNat * 7)).block, (iG.add ((bO).toNat * 7)).off + 2, none⟩ = some (.int .i64 ((rd_T39 aV bO).f2.f0)) ∧ w'.cell? ⟨(iG.add ((bO).toNat * 7)).block, (iG.add ((bO).toNat * 7)).off + 3, none⟩ = some (.int .i64 ((rd_T39 aV bO).f2.f1)) ∧ w'.cell? ⟨(iG.add ((bO).toNat * 7)).block, (iG.add ((bO).toNat * 7)).off + 4, none⟩ = some (.string ((rd_T39 aV bO).f2.f2)) ∧ w'.cell? ⟨(iG.add ((bO).toNat * 7)).block, (iG.add ((bO).toNat * 7)).off + 5, none⟩ = some (.string ((rd_T39 aV bO).f3)) ∧ w'.cell? ⟨(iG.add ((bO).toNat * 7)).block, (iG.add ((bO).toNat * 7)).off + 6, none⟩ = some (.slice XE ((rd_T39 aV bO).f4).length ZH) ∧ w'.cell? (iQ.add ((bO).toNat * 7)) = some (.int .i64 ((rd_T39 dK bO).f0)) ∧ w'.cell? ⟨(iQ.add ((bO).toNat * 7)).block, (iQ.add ((bO).toNat * 7)).off + 1, none⟩ = some (.int .i64 ((rd_T39 dK bO).f1)) ∧ w'.cell? ⟨(iQ.add ((bO).toNat * 7)).block, (iQ.add ((bO).toNat * 7)).off + 2, none⟩ = some (.int .i64 ((rd_T39 dK bO).f2.f0)) ∧ w'.cell? ⟨(iQ.add ((bO).toNat * 7)).block, (iQ.add ((bO).toNat * 7)).off + 3, none⟩ = some (.int .i64 ((rd_T39 dK bO).f2.f1)) ∧ w'.cell? ⟨(iQ.add ((bO).toNat * 7)).block, (iQ.add ((bO).toNat * 7)).off + 4, none⟩ = some (.string ((rd_T39 dK bO).f2.f2)) ∧ w'.cell? ⟨(iQ.add ((bO).toNat * 7)).block, (iQ.add ((bO).toNat * 7)).off + 5, none⟩ = some (.string ((rd_T39 dK bO).f3)) ∧ w'.cell? ⟨(iQ.add ((bO).toNat * 7)).block, (iQ.add ((bO).toNat * 7)).off + 6, none⟩ = some (.slice WT ((rd_T39 dK bO).f4).length YU)) (ds := []) (tf 0 14) (by kernel_rfl) rfl rfl ⟨bc_ eF 0, bc_ eF 1, bc_ eF 2, bc_ eF 3, bc_ eF 4, bc_ eF 5, bc_ eF 6, bc_ eT 0, bc_ eT 1, bc_ eT 2, bc_ eT 3, bc_ eT 4, bc_ eT 5, bc_ eT 6, (hb_ HB Q3), (hb_ HB Q8), (hb_ HB QY), (hb_ HB QR), (hb_ HB MH), (hb_ HB NI), (hb_ HB O1), (hb_ HB SK), (hb_ HB LB), (hb_ HB KL), (hb_ HB QA), (hb_ HB LD), (hb_ HB KV), (hb_ HB QJ)⟩ (fun hHeld => ?_); refine with_tabW impl_sameExp.zI impl_sameExp.nJ (fun HT_ HW_ => ?_))
           generalize wr.drew = w39 at eF eT HB L9 NC sW vE uY sO sS uX rX sH uN tN sF sP uF uB hHeld ⊢; refine pl_ ?_; refine plx_ 2 (bm 14 5) ?_; refine plx_ 5 (bm 14 37) ?_; refine plx_ 7 (bm 14 165) ?_; refine plx_ 10 (bm 14 1189) ?_; refine plx_ 11 (bm 14 3237) ?_; refine tlx_ 1 (bm 14 3239) ?_; refine plx_ 3 (bm 14 3247) ?_; refine tlx_ 4 (bm 14 3263) ?_; refine tlx_ 6 (bm 14 3327) ?_; refine plx_ 8 (bm 14 3583) ?_; refine tlx_ 9 (tf 12 2) ?_; refine on1_ (i := 12) (N := some 65) (tf 13 1) (h := fun K hK => ?_); refine gs_ Tryz.func115 #[.agg #[.int .i64 ((rd_T39 aV bO).f0), .int .i64 ((rd_T39 aV bO).f1), .int .i64 ((rd_T39 aV bO).f2.f0), .int .i64 ((rd_T39 aV bO).f2.f1), .string ((rd_T39 aV bO).f2.f2), .string ((rd_T39 aV bO).f3), .slice XE ((rd_T39 aV bO).f4).length ZH], .agg #[.int .i64 ((rd_T39 dK bO).f0), .int .i64 ((rd_T39 dK bO).f1), .int .i64 ((rd_T39 dK bO).f2.f0), .int .i64 ((rd_T39 dK bO).f2.f1), .string ((rd_T39 dK bO).f2.f2), .string ((rd_T39 dK bO).f3), .slice WT ((rd_T39 dK bO).f4).length YU], .int .i64 (wrap64 (a2 + 1))] ?_; (with_reducible refine (ih k2 (by have := HJ3.out; have := HK2.out; omega) ((rd_T39 aV bO).f0) ((rd_T39 aV bO).f1) ((rd_T39 aV bO).f2.f0) ((rd_T39 aV bO).f2.f1) ((rd_T39 aV bO).f2.f2) ((rd_T39 aV bO).f3) _ _ ((rd_T39 aV bO).f4) ((rd_T39 dK bO).f0) ((rd_T39 dK bO).f1) ((rd_T39 dK bO).f2.f0) ((rd_T39 dK bO).f2.f1) ((rd_T39 dK bO).f2.f2) ((rd_T39 dK bO).f3) _ _ ((rd_T39 dK bO).f4) (wrap64 (a2 + 1)) true _ ?aK ?aT ?bB ?bC A37.out).mono ?_); (case aK => exact ck_ (Kd.C_below L9.out HB.out)); (case aT => exact a5Y.out); (case bB => exact ck_ (Kd.C_below NC.out HB.out)); (case bC => exact a5W.out); rintro e w40 ⟨rfl, hb⟩; refine ⟨_, rfl, ?_⟩; replace eF := bkb_ eF hb; replace eT := bkb_ eT hb; replace HB := bs_ hb; (try clear hb); refine hK.out _ _ ⟨bc_ eF 0, bc_ eF 1, bc_ eF 2, bc_ eF 3, bc_ eF 4, bc_ eF 5, bc_ eF 6, bc_ eT 0, bc_ eT 1, bc_ eT 2, bc_ eT 3, bc_ eT 4, bc_ eT 5, bc_ eT 6, (have h_ := hb_ HB Q3; h_), (have h_ := hb_ HB Q8; h_), (have h_ := hb_ HB QY; h_), (have h_ := hb_ HB QR; h_), (have h_ := hb_ HB MH; h_), (have h_ := hb_ HB NI; h_), (have h_ := hb_ HB O1; h_), (have h_ := hb_ HB SK; h_), (have h_ := hb_ HB LB; h_), (have h_ := hb_ HB KL; h_), (have h_ := hb_ HB QA; h_), (have h_ := hb_ HB LD; h_), (have h_ := hb_ HB KV; h_), (have h_ := hb_ HB QJ; h_)⟩ (fun hHeld => ?_); clear hK K; refine nm_ ?_; refine plx_ 13 (tf 14 0) ?_; refine done_ (done_of HT_.out (by kernel_rfl)) ?_
           try go_wp2
           go_roundg k2
           case measure => have := HJ3.out; have := HK2.out; omega
           case rel => exact ⟨(wrap64 (bO + 1)), rs_, H', ⟨by have := HJ3.out; have := HK2.out; omega⟩, ⟨bkx_ eF.out⟩, ⟨bkx_ eT.out⟩, ⟨bb_⟩⟩
          ·replace c38 := Bool.eq_false_iff.mpr c38
           subst c38; (rw [if_neg (show ¬ (false = true) by decide)] at H); obtain rfl := Option.some.inj H
           try go_wp2
           replace eF := am_ (blk_drew eF.out); replace eT := am_ (blk_drew eT.out); replace HB := am_ (below_drew1 HB.out); (have aD8 : 0 ≤ (bO : Int) := oa_); (have aDT : bO < (aV.length : Int) := oa_); obtain ⟨iG, XE, ZH, b8U, sW, vE, uY, sO, sS, uX, rX, JN, LX⟩ := pE gD.out bO aD8 aDT; have O1 := rX; have NI := uX; have MH := sS; have QR := sO; have QY := uY; have Q8 := vE; have Q3 := sW; cases b8U; replace sW := hb_ HB sW; replace vE := hb_ HB vE; replace uY := hb_ HB uY; replace sO := hb_ HB sO; replace sS := hb_ HB sS; replace uX := hb_ HB uX; replace rX := hb_ HB rX; have L9 := am_ LX; have a5Y := am_ JN; clear LX JN; replace aD8 := eq_true aD8; replace aDT := eq_true aDT; (have aD9 : 0 ≤ (bO : Int) := oa_); (have aFN : bO < (dK.length : Int) := oa_); obtain ⟨iQ, WT, YU, bDE, sH, uN, tN, sF, sP, uF, uB, MN, OZ⟩ := pE ZF.out bO aD9 aFN; have QJ := uB; have KV := uF; have LD := sP; have QA := sF; have KL := tN; have LB := uN; have SK := sH; cases bDE; replace sH := hb_ HB sH; replace uN := hb_ HB uN; replace tN := hb_ HB tN; replace sF := hb_ HB sF; replace sP := hb_ HB sP; replace uF := hb_ HB uF; replace uB := hb_ HB uB; have NC := am_ OZ; have a5W := am_ MN; clear OZ MN; replace aD9 := eq_true aD9; replace aFN := eq_true aFN; (refine start_ (n := 14) (S := fun w' => w'.cell? ⟨rH, 0, none⟩ = some (.int .i64 aD) ∧ w'.cell? ⟨rH, 1, none⟩ = some (.int .i64 aI) ∧ w'.cell? ⟨rH, 2, none⟩ = some (.int .i64 aJ) ∧ w'.cell? ⟨rH, 3, none⟩ = some (.int .i64 aM) ∧ w'.cell? ⟨rH, 4, none⟩ = some (.string aN) ∧ w'.cell? ⟨rH, 5, none⟩ = some (.string aQ) ∧ w'.cell? ⟨rH, 6, none⟩ = some (.slice (some iG) aV.length dJ) ∧ w'.cell? ⟨rJ, 0, none⟩ = some (.int .i64 bH) ∧ w'.cell? ⟨rJ, 1, none⟩ = some (.int .i64 bL) ∧ w'.cell? ⟨rJ, 2, none⟩ = some (.int .i64 bP) ∧ w'.cell? ⟨rJ, 3, none⟩ = some (.int .i64 bW) ∧ w'.cell? ⟨rJ, 4, none⟩ = some (.string bV) ∧ w'.cell? ⟨rJ, 5, none⟩ = some (.string bX) ∧ w'.cell? ⟨rJ, 6, none⟩ = some (.slice (some iQ) dK.length nS) ∧ w'.cell? (iG.add ((bO).toNat * 7)) = some (.int .i64 ((rd_T39 aV bO).f0)) ∧ w'.cell? ⟨(iG.add ((bO).toNat * 7)).block, (iG.add ((bO).toNat * 7)).off + 1, none⟩ = some (.int .i64 ((rd_T39 aV bO).f1)) ∧ w'.cell? ⟨(iG.add ((bO).toNat * 7)).block, (iG.add ((bO).toNat * 7)).off + 2, none⟩ = some (.int .i64 ((rd_T39 aV bO).f2.f0)) ∧ w'.cell? ⟨(iG.add ((bO).toNat * 7)).block, (iG.add ((bO).toNat * 7)).off + 3, none⟩ = some (.int .i64 ((rd_T39 aV bO).f2.f1)) ∧ w'.cell? ⟨(iG.add ((bO).toNat * 7)).block, (iG.add ((bO).toNat * 7)).off + 4, none⟩ = some (.string ((rd_T39 aV bO).f2.f2)) ∧ w'.cell? ⟨(iG.add ((bO).toNat * 7)).block, (iG.add ((bO).toNat * 7)).off + 5, none⟩ = some (.string ((rd_T39 aV bO).f3)) ∧ w'.cell? ⟨(iG.add ((bO).toNat * 7)).block, (iG.add ((bO).toNat * 7)).off + 6, none⟩ = some (.slice XE ((rd_T39 aV bO).f4).length ZH) ∧ w'.cell? (iQ.add ((bO).toNat * 7)) = some (.int .i64 ((rd_T39 dK bO).f0)) ∧ w'.cell? ⟨(iQ.add ((bO).toNat * 7)).block, (iQ.add ((bO).toNat * 7)).off + 1, none⟩ = some (.int .i64 ((rd_T39 dK bO).f1)) ∧ w'.cell? ⟨(iQ.add ((bO).toNat * 7)).block, (iQ.add ((bO).toNat * 7)).off + 2, none⟩ = some (.int .i64 ((rd_T39 dK bO).f2.f0)) ∧ w'.cell? ⟨(iQ.add ((bO).toNat * 7)).block, (iQ.add ((bO).toNat * 7)).off + 3, none⟩ = some (.int .i64 ((rd_T39 dK bO).f2.f1)) ∧ w'.cell? ⟨(iQ.add ((bO).toNat * 7)).block, (iQ.add ((bO).toNat * 7)).off + 4, none⟩ = some (.string ((rd_T39 dK bO).f2.f2)) ∧ w'.cell? ⟨(iQ.add ((bO).toNat * 7)).block, (iQ.add ((bO).toNat * 7)).off + 5, none⟩ = some (.string ((rd_T39 dK bO).f3)) ∧ w'.cell? ⟨(iQ.add ((bO).toNat * 7)).block, (iQ.add ((bO).toNat * 7)).off + 6, none⟩ = some (.slice WT ((rd_T39 dK bO).f4).length YU)) (ds := []) (tf 0 14) (by kernel_rfl) rfl rfl ⟨bc_ eF 0, bc_ eF 1, bc_ eF 2, bc_ eF 3, bc_ eF 4, bc_ eF 5, bc_ eF 6, bc_ eT 0, bc_ eT 1, bc_ eT 2, bc_ eT 3, bc_ eT 4, bc_ eT 5, bc_ eT 6, (hb_ HB Q3), (hb_ HB Q8), (hb_ HB QY), (hb_ HB QR), (hb_ HB MH), (hb_ HB NI), (hb_ HB O1), (hb_ HB SK), (hb_ HB LB), (hb_ HB KL), (hb_ HB QA), (hb_ HB LD), (hb_ HB KV), (hb_ HB QJ)⟩ (fun hHeld => ?_); refine with_tabW impl_sameExp.zI impl_sameExp.nJ (fun HT_ HW_ => ?_))
           generalize wr.drew = w41 at eF eT HB L9 NC sW vE uY sO sS uX rX sH uN tN sF sP uF uB hHeld ⊢; refine pl_ ?_; refine plx_ 2 (bm 14 5) ?_; refine plx_ 5 (bm 14 37) ?_; refine plx_ 7 (bm 14 165) ?_; refine plx_ 10 (bm 14 1189) ?_; refine plx_ 11 (bm 14 3237) ?_; refine tlx_ 1 (bm 14 3239) ?_; refine plx_ 3 (bm 14 3247) ?_; refine tlx_ 4 (bm 14 3263) ?_; refine tlx_ 6 (bm 14 3327) ?_; refine plx_ 8 (bm 14 3583) ?_; refine tlx_ 9 (tf 12 2) ?_; refine on1_ (i := 12) (N := some 65) (tf 13 1) (h := fun K hK => ?_); refine gs_ Tryz.func115 #[.agg #[.int .i64 ((rd_T39 aV bO).f0), .int .i64 ((rd_T39 aV bO).f1), .int .i64 ((rd_T39 aV bO).f2.f0), .int .i64 ((rd_T39 aV bO).f2.f1), .string ((rd_T39 aV bO).f2.f2), .string ((rd_T39 aV bO).f3), .slice XE ((rd_T39 aV bO).f4).length ZH], .agg #[.int .i64 ((rd_T39 dK bO).f0), .int .i64 ((rd_T39 dK bO).f1), .int .i64 ((rd_T39 dK bO).f2.f0), .int .i64 ((rd_T39 dK bO).f2.f1), .string ((rd_T39 dK bO).f2.f2), .string ((rd_T39 dK bO).f3), .slice WT ((rd_T39 dK bO).f4).length YU], .int .i64 (wrap64 (a2 + 1))] ?_; (with_reducible refine (ih k2 (by have := HJ3.out; have := HK2.out; omega) ((rd_T39 aV bO).f0) ((rd_T39 aV bO).f1) ((rd_T39 aV bO).f2.f0) ((rd_T39 aV bO).f2.f1) ((rd_T39 aV bO).f2.f2) ((rd_T39 aV bO).f3) _ _ ((rd_T39 aV bO).f4) ((rd_T39 dK bO).f0) ((rd_T39 dK bO).f1) ((rd_T39 dK bO).f2.f0) ((rd_T39 dK bO).f2.f1) ((rd_T39 dK bO).f2.f2) ((rd_T39 dK bO).f3) _ _ ((rd_T39 dK bO).f4) (wrap64 (a2 + 1)) false _ ?aK ?aT ?bB ?bC A37.out).mono ?_); (case aK => exact ck_ (Kd.C_below L9.out HB.out)); (case aT => exact a5Y.out); (case bB => exact ck_ (Kd.C_below NC.out HB.out)); (case bC => exact a5W.out); rintro e w42 ⟨rfl, hb⟩; refine ⟨_, rfl, ?_⟩; replace eF := bkb_ eF hb; replace eT := bkb_ eT hb; replace HB := bs_ hb; (try clear hb); refine hK.out _ _ ⟨bc_ eF 0, bc_ eF 1, bc_ eF 2, bc_ eF 3, bc_ eF 4, bc_ eF 5, bc_ eF 6, bc_ eT 0, bc_ eT 1, bc_ eT 2, bc_ eT 3, bc_ eT 4, bc_ eT 5, bc_ eT 6, (have h_ := hb_ HB Q3; h_), (have h_ := hb_ HB Q8; h_), (have h_ := hb_ HB QY; h_), (have h_ := hb_ HB QR; h_), (have h_ := hb_ HB MH; h_), (have h_ := hb_ HB NI; h_), (have h_ := hb_ HB O1; h_), (have h_ := hb_ HB SK; h_), (have h_ := hb_ HB LB; h_), (have h_ := hb_ HB KL; h_), (have h_ := hb_ HB QA; h_), (have h_ := hb_ HB LD; h_), (have h_ := hb_ HB KV; h_), (have h_ := hb_ HB QJ; h_)⟩ (fun hHeld => ?_); clear hK K; refine nm_ ?_; refine plx_ 13 (tf 14 0) ?_; refine done_ (done_of HT_.out (by kernel_rfl)) ?_
           try go_wp2
           go_ret
           exact ⟨er_, bb_⟩
         ·rw [if_neg c36] at H
          exact nn_ H
        ·rw [if_neg c35] at H
         exact nn_ H
       ·rw [if_neg c34] at H
        exact nn_ H
      ·rw [if_neg c33] at H
       have c8N := decide_eq_false c33; clear c33; obtain rfl := Option.some.inj H
       go_wp2
       go_ret
       exact ⟨er_, bb_⟩

end Go.Proofs.YtnobhkmpkichdaaGreat.PFnExactWidth
