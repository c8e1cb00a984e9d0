-- WRITTEN BY xprint.py, a program of this session over the kit's printer: by nobody's hand
-- PRESSED4 -- PRESSED TWICE3 -- PRESSED TWICE
import Derived.Test.YtnobhkmpkichdaaGreatPress
import Derived.Test.YtnobhkmpkichdaaGreatPress3
import Derived.Test.YtnobhkmpkichdaaGreatPFnExactWidthx0
import Derived.Test.YtnobhkmpkichdaaGreatPFnExactWidthx12
namespace Go.Proofs.YtnobhkmpkichdaaGreat.PFnExactWidth
set_option maxRecDepth 100000
open Go.RowKit Go.Proofs.YtnobhkmpkichdaaGreatW.PrintWords Go.Proofs.YtnobhkmpkichdaaGreatW.PrintLast Go.Proofs.YtnobhkmpkichdaaGreatW.PrintMore
attribute [local go_sem] max2_int min2_int max_two min_two max_three min_three max_four min_four
set_option linter.unusedVariables false
set_option linter.unusedSimpArgs false

/-! ### impl_SameExp: function 95 -/
def impl_SameExp.f (k : Nat) (aD : Int) (aI : Int) (aJ : Int) (aM : Int) (aN : ByteArray) (aQ : ByteArray) (aV : List (S39)) (bH : Int) (bL : Int) (bP : Int) (bW : Int) (bV : ByteArray) (bX : ByteArray) (dK : List (S39)) : Option (Bool) := (impl_sameExp.f k aD aI aJ aM aN aQ aV bH bL bP bW bV bX dK 0).bind fun aWE => (some aWE)
set_option maxHeartbeats 8000000 in
theorem impl_SameExp.calls (k : Nat) (aD : Int) (aI : Int) (aJ : Int) (aM : Int) (aN : ByteArray) (aQ : ByteArray) (dL : Option Addr) (dJ : Nat) (aV : List (S39)) (bH : Int) (bL : Int) (bP : Int) (bW : Int) (bV : ByteArray) (bX : ByteArray) (q8 : Option Addr) (nS : Nat) (dK : List (S39)) (r : Bool) (w : World) (eX : Kd.C gL w dL aV.length aV) (eU : aV.length ≤ dJ) (DI : Kd.C gL w q8 dK.length dK) (DJ : dK.length ≤ nS) (h : impl_SameExp.f k aD aI aJ aM aN aQ aV bH bL bP bW bV bX dK = some r) :
  Calls Tryz.prog 95 #[.agg #[.int .i64 aD, .int .i64 aI, .int .i64 aJ, .int .i64 aM, .string aN, .string aQ, .slice dL aV.length dJ], .agg #[.int .i64 bH, .int .i64 bL, .int .i64 bP, .int .i64 bW, .string bV, .string bX, .slice q8 dK.length nS]] w fun e w' => e = .returned (.bool r) ∧ Below w.heap.size w w' := by
 have vN := Tryz.underlying39
 have gD := am_ eX
 have gW := am_ eU
 clear eX eU
 have ZF := am_ DI
 have a9X := am_ DJ
 clear DI DJ
 have HB := am_ (Below.refl w.heap.size w)
 have H : ((impl_sameExp.f k aD aI aJ aM aN aQ aV bH bL bP bW bV bX dK 0).bind fun aWE => (some aWE)) = some r := h
 clear h
 replace H := bsi_ H
 obtain ⟨aWE, E8, H⟩ := H
 try dsimp only at H
 have A3 := am_ E8
 clear E8
 obtain rfl := Option.some.inj H
 go_enter Tryz.func95, Tryz.ntmps95
 go_wp2_with (first | ((with_reducible refine gate_dst (N := 2) rfl ?_); refine bx_ 2 #[.int .i64 aD, .int .i64 aI, .int .i64 aJ, .int .i64 aM, .string aN, .string aQ, .slice dL aV.length dJ] 39 ?_; intro cY8 hg w4 hbox hb; have YF := am_ (hbox); have cYQ := gw_ hg; have cZB := gw_ hg; replace HB := bs_ hb; clear hb hbox hg) | ((with_reducible refine gate_dst (N := 3) rfl ?_); refine bx_ 3 #[.int .i64 bH, .int .i64 bL, .int .i64 bP, .int .i64 bW, .string bV, .string bX, .slice q8 dK.length nS] 39 ?_; intro cYC hg w5 hbox hb; have aWB := am_ (hbox); have d1K := gw_ hg; have cZ1 := gw_ hg; have aNQ := nl_ hg YF; have aP3 := ng_ hg YF; replace YF := bkb_ YF hb; replace HB := bs_ hb; clear hb hbox hg; have b3Z := aNQ.out; have b2C := aP3.out; obtain ⟨ET, F6, JB, aDG, aE8, aD3, aFT, FP, F5, J9, aDR, aFB, aEH, aF6⟩ := b7_ YF; obtain ⟨nH, nD, rC, wC, wD, vU, vW, nC, nG, rA, vQ, wF, vP, vY⟩ := b7_ aWB) | ((with_reducible refine gate_callee (f := 115) rfl ?_); refine gsL_ (some 7) Tryz.func115 #[.agg #[.int .i64 aD, .int .i64 aI, .int .i64 aJ, .int .i64 aM, .string aN, .string aQ, .slice dL aV.length dJ], .agg #[.int .i64 bH, .int .i64 bL, .int .i64 bP, .int .i64 bW, .string bV, .string bX, .slice q8 dK.length nS], .int .i64 0] ?_; (with_reducible refine (impl_sameExp.calls k aD aI aJ aM aN aQ _ _ aV bH bL bP bW bV bX _ _ dK 0 aWE _ ?aK ?aT ?bB ?bC A3.out).mono ?_); (case aK => exact ck_ (Kd.C_below gD.out HB.out)); (case aT => exact gW.out); (case bB => exact ck_ (Kd.C_below ZF.out HB.out)); (case bC => exact a9X.out); rintro e w9 ⟨rfl, hb⟩; refine ⟨_, rfl, ?_⟩; replace YF := bkb_ YF hb; replace aWB := bkb_ aWB hb; replace HB := bs_ hb; (try clear hb)))
 go_ret
 exact ⟨er_, bb_⟩

/-! ### impl_Plan_hasNone: function 72 -/
def impl_Plan_hasNone.f (k : Nat) (aD : Int) (aI : ByteArray) (aJ : Int) (aM : Int) (aN : Int) (aQ : Int) (bF : ByteArray) (bE : ByteArray) (bA : List (S39)) (aZ : List (S39)) (aU : Int) (aH : List (S42)) (a1 : Bool) (a2 : Bool) (a3 : Bool) (a4 : Bool) : Option (Bool) := if a1 = true then (if aI.toList = ([] : List UInt8) then (if a2 = true then ((impl_SameExp.f k aJ aM aN aQ bF bE bA 0 0 0 0 (⟨#[]⟩ : ByteArray) (⟨#[]⟩ : ByteArray) ([] : List (S39))).bind fun aWF => (if aWF = true then (if a3 = true then (if (aZ.length : Int) > 0 then (some (!true)) else (if a4 = true then (some (!(aU != 0))) else (some (!false)))) else (if a4 = true then (some (!(aU != 0))) else (some (!false)))) else (some (!true)))) else (if a3 = true then (if (aZ.length : Int) > 0 then (some (!true)) else (if a4 = true then (some (!(aU != 0))) else (some (!false)))) else (if a4 = true then (some (!(aU != 0))) else (some (!false))))) else (some (!true))) else (if a2 = true then ((impl_SameExp.f k aJ aM aN aQ bF bE bA 0 0 0 0 (⟨#[]⟩ : ByteArray) (⟨#[]⟩ : ByteArray) ([] : List (S39))).bind fun aSR => (if aSR = true then (if a3 = true then (if (aZ.length : Int) > 0 then (some (!true)) else (if a4 = true then (some (!(aU != 0))) else (some (!false)))) else (if a4 = true then (some (!(aU != 0))) else (some (!false)))) else (some (!true)))) else (if a3 = true then (if (aZ.length : Int) > 0 then (some (!true)) else (if a4 = true then (some (!(aU != 0))) else (some (!false)))) else (if a4 = true then (some (!(aU != 0))) else (some (!false)))))
set_option maxHeartbeats 8000000 in
theorem impl_Plan_hasNone.calls (k : Nat) (aD : Int) (aI : ByteArray) (aJ : Int) (aM : Int) (aN : Int) (aQ : Int) (bF : ByteArray) (bE : ByteArray) (cO : Option Addr) (cK : Nat) (bA : List (S39)) (dA : Option Addr) (dB : Nat) (aZ : List (S39)) (aU : Int) (bM : Option Addr) (bK : Nat) (aH : List (S42)) (a1 : Bool) (a2 : Bool) (a3 : Bool) (a4 : Bool) (r : Bool) (w : World) (iL : Kd.C gL w cO bA.length bA) (iR : bA.length ≤ cK) (iP : Kd.C gL w dA aZ.length aZ) (iI : aZ.length ≤ dB) (fQ : Kd.C qD w bM aH.length aH) (fZ : aH.length ≤ bK) (h : impl_Plan_hasNone.f k aD aI aJ aM aN aQ bF bE bA aZ aU aH a1 a2 a3 a4 = some r) :
  Calls Tryz.prog 72 #[.agg #[.int .i64 aD, .string aI, .int .i64 aJ, .int .i64 aM, .int .i64 aN, .int .i64 aQ, .string bF, .string bE, .slice cO bA.length cK, .slice dA aZ.length dB, .int .i64 aU, .slice bM aH.length bK], .bool a1, .bool a2, .bool a3, .bool a4] w fun e w' => e = .returned (.bool r) ∧ Below w.heap.size w w' := by
 have UU := Tryz.underlying42
 have vN := Tryz.underlying39
 have dV := am_ iL
 have dU := am_ iR
 clear iL iR
 have fC := am_ iP
 have fG := am_ iI
 clear iP iI
 have dZ := am_ fQ
 have eO := am_ fZ
 clear fQ fZ
 have HB := am_ (Below.refl w.heap.size w)
 have H : (if a1 = true then (if aI.toList = ([] : List UInt8) then (if a2 = true then ((impl_SameExp.f k aJ aM aN aQ bF bE bA 0 0 0 0 (⟨#[]⟩ : ByteArray) (⟨#[]⟩ : ByteArray) ([] : List (S39))).bind fun aWF => (if aWF = true then (if a3 = true then (if (aZ.length : Int) > 0 then (some (!true)) else (if a4 = true then (some (!(aU != 0))) else (some (!false)))) else (if a4 = true then (some (!(aU != 0))) else (some (!false)))) else (some (!true)))) else (if a3 = true then (if (aZ.length : Int) > 0 then (some (!true)) else (if a4 = true then (some (!(aU != 0))) else (some (!false)))) else (if a4 = true then (some (!(aU != 0))) else (some (!false))))) else (some (!true))) else (if a2 = true then ((impl_SameExp.f k aJ aM aN aQ bF bE bA 0 0 0 0 (⟨#[]⟩ : ByteArray) (⟨#[]⟩ : ByteArray) ([] : List (S39))).bind fun aSR => (if aSR = true then (if a3 = true then (if (aZ.length : Int) > 0 then (some (!true)) else (if a4 = true then (some (!(aU != 0))) else (some (!false)))) else (if a4 = true then (some (!(aU != 0))) else (some (!false)))) else (some (!true)))) else (if a3 = true then (if (aZ.length : Int) > 0 then (some (!true)) else (if a4 = true then (some (!(aU != 0))) else (some (!false)))) else (if a4 = true then (some (!(aU != 0))) else (some (!false)))))) = some r := h
 clear h
 by_cases c6 : a1 = true
 ·subst c6
  rw [if_pos rfl] at H
  by_cases c7 : aI.toList = ([] : List UInt8)
  ·rw [if_pos c7] at H
   have gJ : (aI.toList == ([] : List UInt8)) = true := beq_iff_eq.mpr c7; have CF : (aI.toList != ([] : List UInt8)) = false := bne_eq_false_iff_eq.mpr c7; clear c7
   by_cases c8 : a2 = true
   ·subst c8
    rw [if_pos rfl] at H; replace H := bsi_ H; obtain ⟨aWF, A90, H⟩ := H
    try dsimp only at H
    have A9 := am_ A90; clear A90
    by_cases c10 : aWF = true
    ·subst c10
     rw [if_pos rfl] at H
     by_cases c11 : a3 = true
     ·subst c11
      rw [if_pos rfl] at H
      by_cases c12 : (aZ.length : Int) > 0
      ·rw [if_pos c12] at H
       have yU := decide_eq_true c12; have aHY : decide (0 < aZ.length) = true := decide_eq_true (by omega); clear c12; obtain rfl := Option.some.inj H
       go_enter Tryz.func72, Tryz.ntmps72
       go_wp2_with (first | ((with_reducible refine gate_dst (N := 5) rfl ?_); (try (refine gate_guard (by rfl) ?_; dsimp only)); refine bx_ 5 #[.int .i64 aD, .string aI, .int .i64 aJ, .int .i64 aM, .int .i64 aN, .int .i64 aQ, .string bF, .string bE, .slice cO bA.length cK, .slice dA aZ.length dB, .int .i64 aU, .slice bM aH.length bK] 42 ?_; intro lJ hg w13 hbox hb; have dI := am_ (hbox); have lD := gw_ hg; have lG := gw_ hg; replace HB := bs_ hb; clear hb hbox hg; obtain ⟨nY, oK, sQ, zT, AJ, BG, zV, RJ, JZ, OB, EJ, F9, p9, nU, vJ, CR, CU, BC, AP, OX, K6, SC, E5, EO⟩ := b12_ dI) | (go_at_call 95; (refine (impl_SameExp.calls k aJ aM aN aQ bF bE _ _ bA 0 0 0 0 (⟨#[]⟩ : ByteArray) (⟨#[]⟩ : ByteArray) _ _ ([] : List (S39)) true _ ?aK ?aT ?bB ?bC A9.out).mono ?_); (case aK => exact ck_ (Kd.C_below dV.out HB.out)); (case aT => exact dU.out); (case bB => exact Kd.C_nil _ _); (case bC => exact Nat.le_refl _); rintro e w15 ⟨rfl, hb⟩; have n0_ := bkb_ dI hb; have n1_ := bs_ hb; clear dI; clear HB; have dI := n0_; have HB := n1_; clear n0_ n1_; (try clear hb); obtain ⟨mO, mY, oV, qU, qQ, qR, qN, K7, QU, LK, FE, EY, mQ, mG, nX, qK, qG, qJ, qM, NH, PL, JP, ER, EK⟩ := b12_ dI))
       go_ret
       exact ⟨er_, bb_⟩
      ·rw [if_neg c12] at H
       have yU := decide_eq_false c12; have aHY : decide (0 < aZ.length) = false := decide_eq_false (by omega); clear c12
       by_cases c17 : a4 = true
       ·subst c17
        rw [if_pos rfl] at H; obtain rfl := Option.some.inj H
        go_enter Tryz.func72, Tryz.ntmps72
        go_wp2_with (first | ((with_reducible refine gate_dst (N := 5) rfl ?_); (try (refine gate_guard (by rfl) ?_; dsimp only)); refine bx_ 5 #[.int .i64 aD, .string aI, .int .i64 aJ, .int .i64 aM, .int .i64 aN, .int .i64 aQ, .string bF, .string bE, .slice cO bA.length cK, .slice dA aZ.length dB, .int .i64 aU, .slice bM aH.length bK] 42 ?_; intro lJ hg w18 hbox hb; have dI := am_ (hbox); have lD := gw_ hg; have lG := gw_ hg; replace HB := bs_ hb; clear hb hbox hg; obtain ⟨y7, wZ, xZ, BO, BH, zM, D8, a9D, a5D, a2A, YM, Y0, wV, wK, xN, AL, C9, BN, AB, a6E, a8N, a97, WZ, ZO⟩ := b12_ dI) | (go_at_call 95; (refine (impl_SameExp.calls k aJ aM aN aQ bF bE _ _ bA 0 0 0 0 (⟨#[]⟩ : ByteArray) (⟨#[]⟩ : ByteArray) _ _ ([] : List (S39)) true _ ?aK ?aT ?bB ?bC A9.out).mono ?_); (case aK => exact ck_ (Kd.C_below dV.out HB.out)); (case aT => exact dU.out); (case bB => exact Kd.C_nil _ _); (case bC => exact Nat.le_refl _); rintro e w20 ⟨rfl, hb⟩; have n0_ := bkb_ dI hb; have n1_ := bs_ hb; clear dI; clear HB; have dI := n0_; have HB := n1_; clear n0_ n1_; (try clear hb); obtain ⟨xW, xY, IE, a2F, a7L, a6D, a8Y, aH3, aN8, aHD, aC4, aAV, wS, xV, IU, a8M, a88, a7J, a6L, aMY, aIK, aIG, aBK, aCU⟩ := b12_ dI))
        go_ret
        exact ⟨er_, bb_⟩
       ·replace c17 := Bool.eq_false_iff.mpr c17
        subst c17; (rw [if_neg (show ¬ (false = true) by decide)] at H); obtain rfl := Option.some.inj H
        go_enter Tryz.func72, Tryz.ntmps72
        go_wp2_with (first | ((with_reducible refine gate_dst (N := 5) rfl ?_); (try (refine gate_guard (by rfl) ?_; dsimp only)); refine bx_ 5 #[.int .i64 aD, .string aI, .int .i64 aJ, .int .i64 aM, .int .i64 aN, .int .i64 aQ, .string bF, .string bE, .slice cO bA.length cK, .slice dA aZ.length dB, .int .i64 aU, .slice bM aH.length bK] 42 ?_; intro lJ hg w22 hbox hb; have dI := am_ (hbox); have lD := gw_ hg; have lG := gw_ hg; replace HB := bs_ hb; clear hb hbox hg; obtain ⟨lC, kV, kX, oZ, pK, pF, oI, Q9, SS, MR, EN, EW, l7, kZ, kW, oU, o9, o7, pI, QG, RB, PS, ES, FQ⟩ := b12_ dI) | (go_at_call 95; (refine (impl_SameExp.calls k aJ aM aN aQ bF bE _ _ bA 0 0 0 0 (⟨#[]⟩ : ByteArray) (⟨#[]⟩ : ByteArray) _ _ ([] : List (S39)) true _ ?aK ?aT ?bB ?bC A9.out).mono ?_); (case aK => exact ck_ (Kd.C_below dV.out HB.out)); (case aT => exact dU.out); (case bB => exact Kd.C_nil _ _); (case bC => exact Nat.le_refl _); rintro e w24 ⟨rfl, hb⟩; have n0_ := bkb_ dI hb; have n1_ := bs_ hb; clear dI; clear HB; have dI := n0_; have HB := n1_; clear n0_ n1_; (try clear hb); obtain ⟨mU, mX, pQ, wP, y9, xM, xI, aML, aGV, aM6, aCC, aAL, mP, mR, oJ, yC, yD, xP, xS, aKO, aJ1, aNL, aCG, aAE⟩ := b12_ dI))
        go_ret
        exact ⟨er_, bb_⟩
     ·replace c11 := Bool.eq_false_iff.mpr c11
      subst c11; (rw [if_neg (show ¬ (false = true) by decide)] at H)
      by_cases c26 : a4 = true
      ·subst c26
       rw [if_pos rfl] at H; obtain rfl := Option.some.inj H
       go_enter Tryz.func72, Tryz.ntmps72
       go_wp2_with (first | ((with_reducible refine gate_dst (N := 5) rfl ?_); (try (refine gate_guard (by rfl) ?_; dsimp only)); refine bx_ 5 #[.int .i64 aD, .string aI, .int .i64 aJ, .int .i64 aM, .int .i64 aN, .int .i64 aQ, .string bF, .string bE, .slice cO bA.length cK, .slice dA aZ.length dB, .int .i64 aU, .slice bM aH.length bK] 42 ?_; intro lJ hg w27 hbox hb; have dI := am_ (hbox); have lD := gw_ hg; have lG := gw_ hg; replace HB := bs_ hb; clear hb hbox hg; obtain ⟨I4, GN, H8, G9, GV, GZ, IZ, a96, a1A, a9A, XV, YW, I5, HY, GA, IW, H5, GM, IR, a8B, a4Y, a9N, XX, YJ⟩ := b12_ dI) | (go_at_call 95; (refine (impl_SameExp.calls k aJ aM aN aQ bF bE _ _ bA 0 0 0 0 (⟨#[]⟩ : ByteArray) (⟨#[]⟩ : ByteArray) _ _ ([] : List (S39)) true _ ?aK ?aT ?bB ?bC A9.out).mono ?_); (case aK => exact ck_ (Kd.C_below dV.out HB.out)); (case aT => exact dU.out); (case bB => exact Kd.C_nil _ _); (case bC => exact Nat.le_refl _); rintro e w29 ⟨rfl, hb⟩; have n0_ := bkb_ dI hb; have n1_ := bs_ hb; clear dI; clear HB; have dI := n0_; have HB := n1_; clear n0_ n1_; (try clear hb); obtain ⟨a4Q, a8X, a3Y, a5X, a7W, a6G, a4R, a3G, a5M, a7T, WX, X6, a7H, a4J, a6S, a5E, a4E, a3X, a9H, a1E, a7Y, a7Z, Z0, XL⟩ := b12_ dI))
       go_ret
       exact ⟨er_, bb_⟩
      ·replace c26 := Bool.eq_false_iff.mpr c26
       subst c26; (rw [if_neg (show ¬ (false = true) by decide)] at H); obtain rfl := Option.some.inj H
       go_enter Tryz.func72, Tryz.ntmps72
       go_wp2_with (first | ((with_reducible refine gate_dst (N := 5) rfl ?_); (try (refine gate_guard (by rfl) ?_; dsimp only)); refine bx_ 5 #[.int .i64 aD, .string aI, .int .i64 aJ, .int .i64 aM, .int .i64 aN, .int .i64 aQ, .string bF, .string bE, .slice cO bA.length cK, .slice dA aZ.length dB, .int .i64 aU, .slice bM aH.length bK] 42 ?_; intro lJ hg w31 hbox hb; have dI := am_ (hbox); have lD := gw_ hg; have lG := gw_ hg; replace HB := bs_ hb; clear hb hbox hg; obtain ⟨AR, AC, CV, CP, CX, BU, zS, WL, VE, VT, MV, NS, BJ, BM, AX, CE, BA, BV, BL, VX, VD, VH, ME, SI⟩ := b12_ dI) | (go_at_call 95; (refine (impl_SameExp.calls k aJ aM aN aQ bF bE _ _ bA 0 0 0 0 (⟨#[]⟩ : ByteArray) (⟨#[]⟩ : ByteArray) _ _ ([] : List (S39)) true _ ?aK ?aT ?bB ?bC A9.out).mono ?_); (case aK => exact ck_ (Kd.C_below dV.out HB.out)); (case aT => exact dU.out); (case bB => exact Kd.C_nil _ _); (case bC => exact Nat.le_refl _); rintro e w33 ⟨rfl, hb⟩; have n0_ := bkb_ dI hb; have n1_ := bs_ hb; clear dI; clear HB; have dI := n0_; have HB := n1_; clear n0_ n1_; (try clear hb)))
       go_ret
       exact ⟨er_, bb_⟩
    ·replace c10 := Bool.eq_false_iff.mpr c10
     subst c10; (rw [if_neg (show ¬ (false = true) by decide)] at H); obtain rfl := Option.some.inj H
     go_enter Tryz.func72, Tryz.ntmps72
     go_wp2_with (first | ((with_reducible refine gate_dst (N := 5) rfl ?_); (try (refine gate_guard (by rfl) ?_; dsimp only)); refine bx_ 5 #[.int .i64 aD, .string aI, .int .i64 aJ, .int .i64 aM, .int .i64 aN, .int .i64 aQ, .string bF, .string bE, .slice cO bA.length cK, .slice dA aZ.length dB, .int .i64 aU, .slice bM aH.length bK] 42 ?_; intro lJ hg w34 hbox hb; have dI := am_ (hbox); have lD := gw_ hg; have lG := gw_ hg; replace HB := bs_ hb; clear hb hbox hg; obtain ⟨aIZ, aLN, aKZ, aHE, aH2, aNF, aLD, cI0, cHF, cFI, c0H, c6S, aL5, aLB, aI4, aJ8, aI2, aHC, aKM, cR3, cGS, cT0, bWW, cCB⟩ := b12_ dI) | (go_at_call 95; (refine (impl_SameExp.calls k aJ aM aN aQ bF bE _ _ bA 0 0 0 0 (⟨#[]⟩ : ByteArray) (⟨#[]⟩ : ByteArray) _ _ ([] : List (S39)) false _ ?aK ?aT ?bB ?bC A9.out).mono ?_); (case aK => exact ck_ (Kd.C_below dV.out HB.out)); (case aT => exact dU.out); (case bB => exact Kd.C_nil _ _); (case bC => exact Nat.le_refl _); rintro e w36 ⟨rfl, hb⟩; have n0_ := bkb_ dI hb; have n1_ := bs_ hb; clear dI; clear HB; have dI := n0_; have HB := n1_; clear n0_ n1_; (try clear hb)))
     go_ret
     exact ⟨er_, bb_⟩
   ·replace c8 := Bool.eq_false_iff.mpr c8
    subst c8; (rw [if_neg (show ¬ (false = true) by decide)] at H)
    by_cases c37 : a3 = true
    ·subst c37
     rw [if_pos rfl] at H
     by_cases c38 : (aZ.length : Int) > 0
     ·rw [if_pos c38] at H
      have bQA := decide_eq_true c38; have c3I : decide (0 < aZ.length) = true := decide_eq_true (by omega); clear c38; obtain rfl := Option.some.inj H
      go_enter Tryz.func72, Tryz.ntmps72
      go_wp2_with (first | ((with_reducible refine gate_dst (N := 5) rfl ?_); (try (refine gate_guard (by rfl) ?_; dsimp only)); refine bx_ 5 #[.int .i64 aD, .string aI, .int .i64 aJ, .int .i64 aM, .int .i64 aN, .int .i64 aQ, .string bF, .string bE, .slice cO bA.length cK, .slice dA aZ.length dB, .int .i64 aU, .slice bM aH.length bK] 42 ?_; intro lJ hg w39 hbox hb; have dI := am_ (hbox); have lD := gw_ hg; have lG := gw_ hg; replace HB := bs_ hb; clear hb hbox hg; obtain ⟨a6Y, a3D, a3J, a5T, a1G, a4F, a9K, aI9, aK7, aNO, aB1, a9W, a3H, a7D, a3Z, a9O, a7I, a6P, a5Q, aJ5, aLL, aM0, aCI, aAP⟩ := b12_ dI))
      go_ret
      exact ⟨er_, bb_⟩
     ·rw [if_neg c38] at H
      have bQA := decide_eq_false c38; have c3I : decide (0 < aZ.length) = false := decide_eq_false (by omega); clear c38
      by_cases c41 : a4 = true
      ·subst c41
       rw [if_pos rfl] at H; obtain rfl := Option.some.inj H
       go_enter Tryz.func72, Tryz.ntmps72
       go_wp2_with (first | ((with_reducible refine gate_dst (N := 5) rfl ?_); (try (refine gate_guard (by rfl) ?_; dsimp only)); refine bx_ 5 #[.int .i64 aD, .string aI, .int .i64 aJ, .int .i64 aM, .int .i64 aN, .int .i64 aQ, .string bF, .string bE, .slice cO bA.length cK, .slice dA aZ.length dB, .int .i64 aU, .slice bM aH.length bK] 42 ?_; intro lJ hg w42 hbox hb; have dI := am_ (hbox); have lD := gw_ hg; have lG := gw_ hg; replace HB := bs_ hb; clear hb hbox hg; obtain ⟨a2Y, a4Z, a2J, a1O, a2U, a5P, a4W, a9Q, a8S, a3F, YS, a08, a1U, a2D, a9G, a2N, a9I, a3K, a5N, a3B, a4M, a3P, XU, Y7⟩ := b12_ dI))
       go_ret
       exact ⟨er_, bb_⟩
      ·replace c41 := Bool.eq_false_iff.mpr c41
       subst c41; (rw [if_neg (show ¬ (false = true) by decide)] at H); obtain rfl := Option.some.inj H
       go_enter Tryz.func72, Tryz.ntmps72
       go_wp2_with (first | ((with_reducible refine gate_dst (N := 5) rfl ?_); (try (refine gate_guard (by rfl) ?_; dsimp only)); refine bx_ 5 #[.int .i64 aD, .string aI, .int .i64 aJ, .int .i64 aM, .int .i64 aN, .int .i64 aQ, .string bF, .string bE, .slice cO bA.length cK, .slice dA aZ.length dB, .int .i64 aU, .slice bM aH.length bK] 42 ?_; intro lJ hg w44 hbox hb; have dI := am_ (hbox); have lD := gw_ hg; have lG := gw_ hg; replace HB := bs_ hb; clear hb hbox hg; obtain ⟨aGK, aHX, aGX, aHQ, aK2, aK5, aKP, b1B, b2U, aYA, aT1, aVV, aIR, aKU, aME, aIU, aKG, aIO, aGG, b06, b34, b2O, aQ7, aTV⟩ := b12_ dI))
       go_ret
       exact ⟨er_, bb_⟩
    ·replace c37 := Bool.eq_false_iff.mpr c37
     subst c37; (rw [if_neg (show ¬ (false = true) by decide)] at H)
     by_cases c46 : a4 = true
     ·subst c46
      rw [if_pos rfl] at H; obtain rfl := Option.some.inj H
      go_enter Tryz.func72, Tryz.ntmps72
      go_wp2_with (first | ((with_reducible refine gate_dst (N := 5) rfl ?_); (try (refine gate_guard (by rfl) ?_; dsimp only)); refine bx_ 5 #[.int .i64 aD, .string aI, .int .i64 aJ, .int .i64 aM, .int .i64 aN, .int .i64 aQ, .string bF, .string bE, .slice cO bA.length cK, .slice dA aZ.length dB, .int .i64 aU, .slice bM aH.length bK] 42 ?_; intro lJ hg w47 hbox hb; have dI := am_ (hbox); have lD := gw_ hg; have lG := gw_ hg; replace HB := bs_ hb; clear hb hbox hg; obtain ⟨aXH, aXY, b4P, b29, b1E, b0E, aXG, cGZ, cDF, cO3, bIV, bMD, aXL, aY1, b1X, b3P, aWS, b1C, aWK, cHQ, cNC, cFR, bJB, bYE⟩ := b12_ dI))
      go_ret
      exact ⟨er_, bb_⟩
     ·replace c46 := Bool.eq_false_iff.mpr c46
      subst c46; (rw [if_neg (show ¬ (false = true) by decide)] at H); obtain rfl := Option.some.inj H
      go_enter Tryz.func72, Tryz.ntmps72
      go_wp2_with (first | ((with_reducible refine gate_dst (N := 5) rfl ?_); (try (refine gate_guard (by rfl) ?_; dsimp only)); refine bx_ 5 #[.int .i64 aD, .string aI, .int .i64 aJ, .int .i64 aM, .int .i64 aN, .int .i64 aQ, .string bF, .string bE, .slice cO bA.length cK, .slice dA aZ.length dB, .int .i64 aU, .slice bM aH.length bK] 42 ?_; intro lJ hg w49 hbox hb; have dI := am_ (hbox); have lD := gw_ hg; have lG := gw_ hg; replace HB := bs_ hb; clear hb hbox hg; obtain ⟨aL3, aIT, aHJ, aJZ, aH1, aJV, aM7, b53, b1N, b3C, aVL, aV1, aJE, aIC, aHO, aMA, aH7, aKH, aGZ, b5A, aZA, b1M, aRR, aT0⟩ := b12_ dI))
      go_ret
      exact ⟨er_, bb_⟩
  ·rw [if_neg c7] at H
   have gJ : (aI.toList == ([] : List UInt8)) = false := beq_eq_false_iff_ne.mpr c7; have CF : (aI.toList != ([] : List UInt8)) = true := bne_iff_ne.mpr c7; obtain rfl := Option.some.inj H
   go_enter Tryz.func72, Tryz.ntmps72
   go_wp2_with (first | ((with_reducible refine gate_dst (N := 5) rfl ?_); (try (refine gate_guard (by rfl) ?_; dsimp only)); refine bx_ 5 #[.int .i64 aD, .string aI, .int .i64 aJ, .int .i64 aM, .int .i64 aN, .int .i64 aQ, .string bF, .string bE, .slice cO bA.length cK, .slice dA aZ.length dB, .int .i64 aU, .slice bM aH.length bK] 42 ?_; intro lJ hg w51 hbox hb; have dI := am_ (hbox); have lD := gw_ hg; have lG := gw_ hg; replace HB := bs_ hb; clear hb hbox hg; obtain ⟨cPO, cTB, cNW, cIO, cK0, cLK, cH1, cIU, cEG, cMQ, bV3, bP0, cIZ, cFH, cL6, cGP, cLE, cPK, cNF, cDS, cPD, cKM, bO4, bXP⟩ := b12_ dI))
   go_ret
   exact ⟨er_, bb_⟩
 ·replace c6 := Bool.eq_false_iff.mpr c6
  subst c6; (rw [if_neg (show ¬ (false = true) by decide)] at H)
  by_cases c53 : a2 = true
  ·subst c53
   rw [if_pos rfl] at H; replace H := bsi_ H; obtain ⟨aSR, aUG, H⟩ := H
   try dsimp only at H
   have A54 := am_ aUG; clear aUG
   by_cases c55 : aSR = true
   ·subst c55
    rw [if_pos rfl] at H
    by_cases c56 : a3 = true
    ·subst c56
     rw [if_pos rfl] at H
     by_cases c57 : (aZ.length : Int) > 0
     ·rw [if_pos c57] at H
      have aTX := decide_eq_true c57; have aRO : decide (0 < aZ.length) = true := decide_eq_true (by omega); clear c57; obtain rfl := Option.some.inj H
      go_enter Tryz.func72, Tryz.ntmps72
      go_wp2_with (first | ((with_reducible refine gate_dst (N := 5) rfl ?_); (try (refine gate_guard (by rfl) ?_; dsimp only)); refine bx_ 5 #[.int .i64 aD, .string aI, .int .i64 aJ, .int .i64 aM, .int .i64 aN, .int .i64 aQ, .string bF, .string bE, .slice cO bA.length cK, .slice dA aZ.length dB, .int .i64 aU, .slice bM aH.length bK] 42 ?_; intro lJ hg w58 hbox hb; have dI := am_ (hbox); have lD := gw_ hg; have lG := gw_ hg; replace HB := bs_ hb; clear hb hbox hg; obtain ⟨aM2, aM8, aND, aHN, aGT, aJM, aJS, b3A, b0K, b3T, aUO, aW2, aGP, aMP, aKA, aGS, aI3, aJA, aMJ, aZ2, aZQ, b1G, aQL, aTK⟩ := b12_ dI) | (go_at_call 95; (refine (impl_SameExp.calls k aJ aM aN aQ bF bE _ _ bA 0 0 0 0 (⟨#[]⟩ : ByteArray) (⟨#[]⟩ : ByteArray) _ _ ([] : List (S39)) true _ ?aK ?aT ?bB ?bC A54.out).mono ?_); (case aK => exact ck_ (Kd.C_below dV.out HB.out)); (case aT => exact dU.out); (case bB => exact Kd.C_nil _ _); (case bC => exact Nat.le_refl _); rintro e w60 ⟨rfl, hb⟩; have n0_ := bkb_ dI hb; have n1_ := bs_ hb; clear dI; clear HB; have dI := n0_; have HB := n1_; clear n0_ n1_; (try clear hb); obtain ⟨aYB, b0O, b0A, b2A, aYR, aZR, b4Z, aXR, b1Z, aXS, aPX, aS2, b4T, aYJ, aZS, aX8, b4M, aZT, b5O, b4Q, aZV, b0X, aWC, aUP⟩ := b12_ dI))
      go_ret
      exact ⟨er_, bb_⟩
     ·rw [if_neg c57] at H
      have aTX := decide_eq_false c57; have aRO : decide (0 < aZ.length) = false := decide_eq_false (by omega); clear c57
      by_cases c62 : a4 = true
      ·subst c62
       rw [if_pos rfl] at H; obtain rfl := Option.some.inj H
       go_enter Tryz.func72, Tryz.ntmps72
       go_wp2_with (first | ((with_reducible refine gate_dst (N := 5) rfl ?_); (try (refine gate_guard (by rfl) ?_; dsimp only)); refine bx_ 5 #[.int .i64 aD, .string aI, .int .i64 aJ, .int .i64 aM, .int .i64 aN, .int .i64 aQ, .string bF, .string bE, .slice cO bA.length cK, .slice dA aZ.length dB, .int .i64 aU, .slice bM aH.length bK] 42 ?_; intro lJ hg w63 hbox hb; have dI := am_ (hbox); have lD := gw_ hg; have lG := gw_ hg; replace HB := bs_ hb; clear hb hbox hg; obtain ⟨b42, aYU, aZ1, aX4, b09, b4N, b21, cKE, cQ4, cOD, bY2, bXB, b2R, b49, b4R, b3B, b50, b1L, aYW, cT9, cIX, cRB, c0F, bN1⟩ := b12_ dI) | (go_at_call 95; (refine (impl_SameExp.calls k aJ aM aN aQ bF bE _ _ bA 0 0 0 0 (⟨#[]⟩ : ByteArray) (⟨#[]⟩ : ByteArray) _ _ ([] : List (S39)) true _ ?aK ?aT ?bB ?bC A54.out).mono ?_); (case aK => exact ck_ (Kd.C_below dV.out HB.out)); (case aT => exact dU.out); (case bB => exact Kd.C_nil _ _); (case bC => exact Nat.le_refl _); rintro e w65 ⟨rfl, hb⟩; have n0_ := bkb_ dI hb; have n1_ := bs_ hb; clear dI; clear HB; have dI := n0_; have HB := n1_; clear n0_ n1_; (try clear hb); obtain ⟨a5K, a5O, a1C, a9J, a2O, a7M, a5A, aNA, aHB, aLU, aB3, aB7, a4X, a8U, a92, a6M, a8C, a2Z, a1L, aLP, aKC, aK9, a9S, aCP⟩ := b12_ dI))
       go_ret
       exact ⟨er_, bb_⟩
      ·replace c62 := Bool.eq_false_iff.mpr c62
       subst c62; (rw [if_neg (show ¬ (false = true) by decide)] at H); obtain rfl := Option.some.inj H
       go_enter Tryz.func72, Tryz.ntmps72
       go_wp2_with (first | ((with_reducible refine gate_dst (N := 5) rfl ?_); (try (refine gate_guard (by rfl) ?_; dsimp only)); refine bx_ 5 #[.int .i64 aD, .string aI, .int .i64 aJ, .int .i64 aM, .int .i64 aN, .int .i64 aQ, .string bF, .string bE, .slice cO bA.length cK, .slice dA aZ.length dB, .int .i64 aU, .slice bM aH.length bK] 42 ?_; intro lJ hg w67 hbox hb; have dI := am_ (hbox); have lD := gw_ hg; have lG := gw_ hg; replace HB := bs_ hb; clear hb hbox hg; obtain ⟨cKP, cLW, cSP, cNR, cRL, cSR, cEZ, cJP, cLS, cJM, bYK, bZ9, cKQ, cQH, cFS, cNQ, cF5, cS9, cT3, cNL, cTC, cMN, bNE, cA0⟩ := b12_ dI) | (go_at_call 95; (refine (impl_SameExp.calls k aJ aM aN aQ bF bE _ _ bA 0 0 0 0 (⟨#[]⟩ : ByteArray) (⟨#[]⟩ : ByteArray) _ _ ([] : List (S39)) true _ ?aK ?aT ?bB ?bC A54.out).mono ?_); (case aK => exact ck_ (Kd.C_below dV.out HB.out)); (case aT => exact dU.out); (case bB => exact Kd.C_nil _ _); (case bC => exact Nat.le_refl _); rintro e w69 ⟨rfl, hb⟩; have n0_ := bkb_ dI hb; have n1_ := bs_ hb; clear dI; clear HB; have dI := n0_; have HB := n1_; clear n0_ n1_; (try clear hb); obtain ⟨b36, aZM, b4U, b4V, aZK, aZ3, b0M, b0J, aZP, b5B, aQ1, aQ0, aZC, aYO, b3S, b2J, b4F, b38, aY5, aYS, b4B, aXI, aRM, aQM⟩ := b12_ dI))
       go_ret
       exact ⟨er_, bb_⟩
    ·replace c56 := Bool.eq_false_iff.mpr c56
     subst c56; (rw [if_neg (show ¬ (false = true) by decide)] at H)
     by_cases c71 : a4 = true
     ·subst c71
      rw [if_pos rfl] at H; obtain rfl := Option.some.inj H
      go_enter Tryz.func72, Tryz.ntmps72
      go_wp2_with (first | ((with_reducible refine gate_dst (N := 5) rfl ?_); (try (refine gate_guard (by rfl) ?_; dsimp only)); refine bx_ 5 #[.int .i64 aD, .string aI, .int .i64 aJ, .int .i64 aM, .int .i64 aN, .int .i64 aQ, .string bF, .string bE, .slice cO bA.length cK, .slice dA aZ.length dB, .int .i64 aU, .slice bM aH.length bK] 42 ?_; intro lJ hg w72 hbox hb; have dI := am_ (hbox); have lD := gw_ hg; have lG := gw_ hg; replace HB := bs_ hb; clear hb hbox hg; obtain ⟨cEB, cG3, cS0, cEE, cTP, cFX, cI7, cK6, cI8, cJI, bYJ, bSO, cG1, cS3, cSZ, cDN, cQW, cMK, cEN, cIN, cDM, cM6, bTF, c9R⟩ := b12_ dI) | (go_at_call 95; (refine (impl_SameExp.calls k aJ aM aN aQ bF bE _ _ bA 0 0 0 0 (⟨#[]⟩ : ByteArray) (⟨#[]⟩ : ByteArray) _ _ ([] : List (S39)) true _ ?aK ?aT ?bB ?bC A54.out).mono ?_); (case aK => exact ck_ (Kd.C_below dV.out HB.out)); (case aT => exact dU.out); (case bB => exact Kd.C_nil _ _); (case bC => exact Nat.le_refl _); rintro e w74 ⟨rfl, hb⟩; have n0_ := bkb_ dI hb; have n1_ := bs_ hb; clear dI; clear HB; have dI := n0_; have HB := n1_; clear n0_ n1_; (try clear hb); obtain ⟨b35, b1S, aYN, aZ0, b2W, aZN, b4W, aZB, aZW, aZX, aTG, aV5, b39, b31, aXM, b4A, b52, aZH, b1Y, b2V, b27, b1A, aT6, aSN⟩ := b12_ dI))
      go_ret
      exact ⟨er_, bb_⟩
     ·replace c71 := Bool.eq_false_iff.mpr c71
      subst c71; (rw [if_neg (show ¬ (false = true) by decide)] at H); obtain rfl := Option.some.inj H
      go_enter Tryz.func72, Tryz.ntmps72
      go_wp2_with (first | ((with_reducible refine gate_dst (N := 5) rfl ?_); (try (refine gate_guard (by rfl) ?_; dsimp only)); refine bx_ 5 #[.int .i64 aD, .string aI, .int .i64 aJ, .int .i64 aM, .int .i64 aN, .int .i64 aQ, .string bF, .string bE, .slice cO bA.length cK, .slice dA aZ.length dB, .int .i64 aU, .slice bM aH.length bK] 42 ?_; intro lJ hg w76 hbox hb; have dI := am_ (hbox); have lD := gw_ hg; have lG := gw_ hg; replace HB := bs_ hb; clear hb hbox hg; obtain ⟨cEF, cO8, cJN, cGV, cM9, cNA, cF2, cM8, cJ2, cTD, bXM, bZ5, cE8, cFL, cDP, cGJ, cDH, cS1, cQ0, cOL, cO0, cRQ, bN6, cA6⟩ := b12_ dI) | (go_at_call 95; (refine (impl_SameExp.calls k aJ aM aN aQ bF bE _ _ bA 0 0 0 0 (⟨#[]⟩ : ByteArray) (⟨#[]⟩ : ByteArray) _ _ ([] : List (S39)) true _ ?aK ?aT ?bB ?bC A54.out).mono ?_); (case aK => exact ck_ (Kd.C_below dV.out HB.out)); (case aT => exact dU.out); (case bB => exact Kd.C_nil _ _); (case bC => exact Nat.le_refl _); rintro e w78 ⟨rfl, hb⟩; have n0_ := bkb_ dI hb; have n1_ := bs_ hb; clear dI; clear HB; have dI := n0_; have HB := n1_; clear n0_ n1_; (try clear hb)))
      go_ret
      exact ⟨er_, bb_⟩
   ·replace c55 := Bool.eq_false_iff.mpr c55
    subst c55; (rw [if_neg (show ¬ (false = true) by decide)] at H); obtain rfl := Option.some.inj H
    go_enter Tryz.func72, Tryz.ntmps72
    go_wp2_with (first | ((with_reducible refine gate_dst (N := 5) rfl ?_); (try (refine gate_guard (by rfl) ?_; dsimp only)); refine bx_ 5 #[.int .i64 aD, .string aI, .int .i64 aJ, .int .i64 aM, .int .i64 aN, .int .i64 aQ, .string bF, .string bE, .slice cO bA.length cK, .slice dA aZ.length dB, .int .i64 aU, .slice bM aH.length bK] 42 ?_; intro lJ hg w79 hbox hb; have dI := am_ (hbox); have lD := gw_ hg; have lG := gw_ hg; replace HB := bs_ hb; clear hb hbox hg; obtain ⟨b5I, b30, cSL, cPY, cFU, cP3, cOX, cOH, cSD, cEX, c9K, cA7, b23, aZU, cES, cG4, cIM, cL9, cN7, cGC, cSC, cN2, c3L, bSH⟩ := b12_ dI) | (go_at_call 95; (refine (impl_SameExp.calls k aJ aM aN aQ bF bE _ _ bA 0 0 0 0 (⟨#[]⟩ : ByteArray) (⟨#[]⟩ : ByteArray) _ _ ([] : List (S39)) false _ ?aK ?aT ?bB ?bC A54.out).mono ?_); (case aK => exact ck_ (Kd.C_below dV.out HB.out)); (case aT => exact dU.out); (case bB => exact Kd.C_nil _ _); (case bC => exact Nat.le_refl _); rintro e w81 ⟨rfl, hb⟩; have n0_ := bkb_ dI hb; have n1_ := bs_ hb; clear dI; clear HB; have dI := n0_; have HB := n1_; clear n0_ n1_; (try clear hb)))
    go_ret
    exact ⟨er_, bb_⟩
  ·replace c53 := Bool.eq_false_iff.mpr c53
   subst c53; (rw [if_neg (show ¬ (false = true) by decide)] at H)
   by_cases c82 : a3 = true
   ·subst c82
    rw [if_pos rfl] at H
    by_cases c83 : (aZ.length : Int) > 0
    ·rw [if_pos c83] at H
     have bVY := decide_eq_true c83; have c0C : decide (0 < aZ.length) = true := decide_eq_true (by omega); clear c83; obtain rfl := Option.some.inj H
     go_enter Tryz.func72, Tryz.ntmps72
     go_wp2_with (first | ((with_reducible refine gate_dst (N := 5) rfl ?_); (try (refine gate_guard (by rfl) ?_; dsimp only)); refine bx_ 5 #[.int .i64 aD, .string aI, .int .i64 aJ, .int .i64 aM, .int .i64 aN, .int .i64 aQ, .string bF, .string bE, .slice cO bA.length cK, .slice dA aZ.length dB, .int .i64 aU, .slice bM aH.length bK] 42 ?_; intro lJ hg w84 hbox hb; have dI := am_ (hbox); have lD := gw_ hg; have lG := gw_ hg; replace HB := bs_ hb; clear hb hbox hg; obtain ⟨cEO, cND, cQZ, cJ7, cLV, cSK, cN9, cQU, cQI, cPG, c9I, bQF, cH5, cPA, cDQ, cER, cKT, cJ8, cKL, cFQ, cLM, cQK, bZZ, c7N⟩ := b12_ dI))
     go_ret
     exact ⟨er_, bb_⟩
    ·rw [if_neg c83] at H
     have bVY := decide_eq_false c83; have c0C : decide (0 < aZ.length) = false := decide_eq_false (by omega); clear c83
     by_cases c86 : a4 = true
     ·subst c86
      rw [if_pos rfl] at H; obtain rfl := Option.some.inj H
      go_enter Tryz.func72, Tryz.ntmps72
      go_wp2_with (first | ((with_reducible refine gate_dst (N := 5) rfl ?_); (try (refine gate_guard (by rfl) ?_; dsimp only)); refine bx_ 5 #[.int .i64 aD, .string aI, .int .i64 aJ, .int .i64 aM, .int .i64 aN, .int .i64 aQ, .string bF, .string bE, .slice cO bA.length cK, .slice dA aZ.length dB, .int .i64 aU, .slice bM aH.length bK] 42 ?_; intro lJ hg w87 hbox hb; have dI := am_ (hbox); have lD := gw_ hg; have lG := gw_ hg; replace HB := bs_ hb; clear hb hbox hg; obtain ⟨cR6, cDC, cJK, cKX, cM5, cMP, cRV, cMA, cTM, cRJ, bLQ, bZO, cT5, cMR, cEQ, cLI, cT1, cDR, cP0, cKN, cNV, cKH, cAB, bPN⟩ := b12_ dI))
      go_ret
      exact ⟨er_, bb_⟩
     ·replace c86 := Bool.eq_false_iff.mpr c86
      subst c86; (rw [if_neg (show ¬ (false = true) by decide)] at H); obtain rfl := Option.some.inj H
      go_enter Tryz.func72, Tryz.ntmps72
      go_wp2_with (first | ((with_reducible refine gate_dst (N := 5) rfl ?_); (try (refine gate_guard (by rfl) ?_; dsimp only)); refine bx_ 5 #[.int .i64 aD, .string aI, .int .i64 aJ, .int .i64 aM, .int .i64 aN, .int .i64 aQ, .string bF, .string bE, .slice cO bA.length cK, .slice dA aZ.length dB, .int .i64 aU, .slice bM aH.length bK] 42 ?_; intro lJ hg w89 hbox hb; have dI := am_ (hbox); have lD := gw_ hg; have lG := gw_ hg; replace HB := bs_ hb; clear hb hbox hg; obtain ⟨cI9, cDV, cHL, cSA, cG5, cRK, cRD, cHI, cPJ, cF8, cA3, c8C, cMY, cTG, cNM, cGH, cM4, cRX, cL4, cJA, cNB, cHY, bZP, c4W⟩ := b12_ dI))
      go_ret
      exact ⟨er_, bb_⟩
   ·replace c82 := Bool.eq_false_iff.mpr c82
    subst c82; (rw [if_neg (show ¬ (false = true) by decide)] at H)
    by_cases c91 : a4 = true
    ·subst c91
     rw [if_pos rfl] at H; obtain rfl := Option.some.inj H
     go_enter Tryz.func72, Tryz.ntmps72
     go_wp2_with (first | ((with_reducible refine gate_dst (N := 5) rfl ?_); (try (refine gate_guard (by rfl) ?_; dsimp only)); refine bx_ 5 #[.int .i64 aD, .string aI, .int .i64 aJ, .int .i64 aM, .int .i64 aN, .int .i64 aQ, .string bF, .string bE, .slice cO bA.length cK, .slice dA aZ.length dB, .int .i64 aU, .slice bM aH.length bK] 42 ?_; intro lJ hg w92 hbox hb; have dI := am_ (hbox); have lD := gw_ hg; have lG := gw_ hg; replace HB := bs_ hb; clear hb hbox hg; obtain ⟨cEW, cNZ, cGM, cPR, cNK, cI3, cDY, cP6, cLN, cSM, cCG, bM4, cDJ, cH6, cSU, cEP, cSF, cJU, cGF, cSN, cN6, cP8, c9M, bSB⟩ := b12_ dI))
     go_ret
     exact ⟨er_, bb_⟩
    ·replace c91 := Bool.eq_false_iff.mpr c91
     subst c91; (rw [if_neg (show ¬ (false = true) by decide)] at H); obtain rfl := Option.some.inj H
     go_enter Tryz.func72, Tryz.ntmps72
     go_wp2_with (first | ((with_reducible refine gate_dst (N := 5) rfl ?_); (try (refine gate_guard (by rfl) ?_; dsimp only)); refine bx_ 5 #[.int .i64 aD, .string aI, .int .i64 aJ, .int .i64 aM, .int .i64 aN, .int .i64 aQ, .string bF, .string bE, .slice cO bA.length cK, .slice dA aZ.length dB, .int .i64 aU, .slice bM aH.length bK] 42 ?_; intro lJ hg w94 hbox hb; have dI := am_ (hbox); have lD := gw_ hg; have lG := gw_ hg; replace HB := bs_ hb; clear hb hbox hg))
     go_ret
     exact ⟨er_, bb_⟩

/-! ### impl_Plan_kids: function 73 -/
def impl_Plan_kids.l0 (E_ : (List (S68)) → Int → ByteArray → Int → Int → Int → Int → ByteArray → ByteArray → (List (S39)) → (List (S39)) → Int → (List (S42)) → Int → Option (Int)) : Nat → List (S68) → Int → List Int → List (S42) → Int → Int → Option (List Int × Bool)
 | 0, _, _, _, _, _, _ => none
 | k + 1, x1, x2, x10, x20, x21, x22 => if x22 < x21 then (if 0 ≤ x22 then (if x22 < (x20.length : Int) then ((E_ x1 ((rd_T42 x20 x22).f0) ((rd_T42 x20 x22).f1) ((rd_T42 x20 x22).f2.f0) ((rd_T42 x20 x22).f2.f1) ((rd_T42 x20 x22).f2.f2.f0) ((rd_T42 x20 x22).f2.f2.f1) ((rd_T42 x20 x22).f2.f2.f2) ((rd_T42 x20 x22).f2.f3) ((rd_T42 x20 x22).f2.f4) ((rd_T42 x20 x22).f3) ((rd_T42 x20 x22).f4) ((rd_T42 x20 x22).f5) (wrap64 (x2 + 1))).bind fun a6V => (if a6V < 0 then (some (([] : List Int), false)) else (if x10.length < 17592186044416 then (impl_Plan_kids.l0 E_ k x1 x2 (x10 ++ [a6V]) x20 x21 (wrap64 (x22 + 1))) else (none)))) else (none)) else (none)) else (some (x10, true))
def impl_Plan_kids.f (E_ : (List (S68)) → Int → ByteArray → Int → Int → Int → Int → ByteArray → ByteArray → (List (S39)) → (List (S39)) → Int → (List (S42)) → Int → Option (Int)) (k : Nat) (aD : Int) (aI : ByteArray) (aJ : Int) (aM : Int) (aN : Int) (aQ : Int) (bF : ByteArray) (bE : ByteArray) (bA : List (S39)) (aZ : List (S39)) (aU : Int) (aH : List (S42)) (l1 : List (S68)) (a2 : Int) (a3 : Int) : Option (List Int × Bool) := if (aH.length : Int) = a3 then (impl_Plan_kids.l0 E_ k l1 a2 ([] : List Int) aH (aH.length : Int) 0) else (some (([] : List Int), false))
theorem bTV {B : Nat} {w W : World} (h : Below B w W := by repeat (first | (with_reducible first | exact HB.out | apply below_alloc | apply pw_below_drewN | apply below_drew1 | refine below_set ?_ aR4.out) | exact HB.out)) : Below B w W := h
set_option maxHeartbeats 8000000 in
theorem impl_Plan_kids.calls (E_ : (List (S68)) → Int → ByteArray → Int → Int → Int → Int → ByteArray → ByteArray → (List (S39)) → (List (S39)) → Int → (List (S42)) → Int → Option (Int)) (EP : ∀ (A0 : Option Addr) (c0 : Nat) (l0 : List (S68)) (bH : Int) (bL : ByteArray) (bP : Int) (bW : Int) (bV : Int) (bX : Int) (dE : ByteArray) (dD : ByteArray) (A1_8 : Option Addr) (c1_8 : Nat) (l1_8 : List (S39)) (A1_9 : Option Addr) (c1_9 : Nat) (l1_9 : List (S39)) (bS : Int) (A1_11 : Option Addr) (c1_11 : Nat) (l1_11 : List (S42)) (a2 : Int) (r : Int) (w : World) (hr0 : Kd.C FU w A0 l0.length l0) (hc0 : l0.length ≤ c0) (jQ : Kd.C gL w A1_8 l1_8.length l1_8) (jP : l1_8.length ≤ c1_8) (jM : Kd.C gL w A1_9 l1_9.length l1_9) (jL : l1_9.length ≤ c1_9) (gN : Kd.C qD w A1_11 l1_11.length l1_11) (gM : l1_11.length ≤ c1_11) (h : E_ l0 bH bL bP bW bV bX dE dD l1_8 l1_9 bS l1_11 a2 = some r), Calls Tryz.prog 27 #[.slice A0 l0.length c0, .agg #[.int .i64 bH, .string bL, .int .i64 bP, .int .i64 bW, .int .i64 bV, .int .i64 bX, .string dE, .string dD, .slice A1_8 l1_8.length c1_8, .slice A1_9 l1_9.length c1_9, .int .i64 bS, .slice A1_11 l1_11.length c1_11], .int .i64 a2] w fun e w' => e = .returned (.int .i64 r) ∧ Below w.heap.size w w') (k : Nat) (aD : Int) (aI : ByteArray) (aJ : Int) (aM : Int) (aN : Int) (aQ : Int) (bF : ByteArray) (bE : ByteArray) (cO : Option Addr) (cK : Nat) (bA : List (S39)) (dA : Option Addr) (dB : Nat) (aZ : List (S39)) (aU : Int) (bM : Option Addr) (bK : Nat) (aH : List (S42)) (A1 : Option Addr) (c1 : Nat) (l1 : List (S68)) (a2 : Int) (a3 : Int) (r1 : List Int) (r2 : Bool) (w : World) (iL : Kd.C gL w cO bA.length bA) (iR : bA.length ≤ cK) (iP : Kd.C gL w dA aZ.length aZ) (iI : aZ.length ≤ dB) (fQ : Kd.C qD w bM aH.length aH) (fZ : aH.length ≤ bK) (hr1 : Kd.C FU w A1 l1.length l1) (hc1 : l1.length ≤ c1) (h : impl_Plan_kids.f E_ k aD aI aJ aM aN aQ bF bE bA aZ aU aH l1 a2 a3 = some (r1, r2)) :
  Calls Tryz.prog 73 #[.agg #[.int .i64 aD, .string aI, .int .i64 aJ, .int .i64 aM, .int .i64 aN, .int .i64 aQ, .string bF, .string bE, .slice cO bA.length cK, .slice dA aZ.length dB, .int .i64 aU, .slice bM aH.length bK], .slice A1 l1.length c1, .int .i64 a2, .int .i64 a3] w fun e w' => ∃ UR : Value, e = .returned (.tuple #[UR, .bool r2]) ∧ Kd.R (Kd.int .i64) 3 w' w.heap.size (fun _ => True) UR r1 ∧ Below w.heap.size w w' := by
 have UU := Tryz.underlying42
 have dV := am_ iL
 have dU := am_ iR
 clear iL iR
 have fC := am_ iP
 have fG := am_ iI
 clear iP iI
 have dZ := am_ fQ
 have eO := am_ fZ
 clear fQ fZ
 have HR1 := am_ hr1
 have U6 := am_ hc1
 clear hr1 hc1
 have HB := am_ (Below.refl w.heap.size w)
 have H : (if (aH.length : Int) = a3 then (impl_Plan_kids.l0 E_ k l1 a2 ([] : List Int) aH (aH.length : Int) 0) else (some (([] : List Int), false))) = some (r1, r2) := h
 clear h
 by_cases c5 : (aH.length : Int) = a3
 ·rw [if_pos c5] at H
  have pV : ((aH.length : Int) == a3) = true := beq_iff_eq.mpr c5; have TB : ((aH.length : Int) != a3) = false := bne_eq_false_iff_eq.mpr c5; clear c5; have H' := am_ H; clear H
  go_enter Tryz.func73, Tryz.ntmps73
  go_wp2_with (first | ((with_reducible refine gate_dst (N := 4) rfl ?_); refine bx_ 4 #[.int .i64 aD, .string aI, .int .i64 aJ, .int .i64 aM, .int .i64 aN, .int .i64 aQ, .string bF, .string bE, .slice cO bA.length cK, .slice dA aZ.length dB, .int .i64 aU, .slice bM aH.length bK] 42 ?_; intro aCE hg w6 hbox hb; have kS := am_ (hbox); have c1N := gw_ hg; have aR4 := gw_ hg; replace HB := bs_ hb; clear hb hbox hg; obtain ⟨ET, F6, JB, aDG, aE8, aD3, aFT, b9A, bAE, bAG, b4D, aZO, FP, F5, J9, aDR, aFB, aEH, aF6, bEN, bDH, b99, b2H, b0G⟩ := b12_ kS))
  go_loopg [10, 22] k (fun kq v10 v22 w' => ∃ (a10 : List Int) (aW : Int), v22 = .int .i64 aW ∧ Aside0 (impl_Plan_kids.l0 E_ kq l1 a2 a10 aH (aH.length : Int) aW = some (r1, r2)) ∧ Aside0 (kq ≤ k) ∧ Aside0 (Kd.R (Kd.int .i64) 3 w' w.heap.size (fun _ => True) v10 a10) ∧ Aside0 (w'.heap[aCE]? = some (.cells #[.int .i64 aD, .string aI, .int .i64 aJ, .int .i64 aM, .int .i64 aN, .int .i64 aQ, .string bF, .string bE, (.slice cO bA.length cK), (.slice dA aZ.length dB), .int .i64 aU, (.slice bM aH.length bK)] 42 (0, 0))) ∧ Aside0 (Below w.heap.size w w'))
  case atStart => exact ⟨(([] : List Int)), (0), rs_, H', ⟨Nat.le_refl _⟩, ⟨by first | exact Kd.R_nil _ _ _ _ _ | exact Kd.N_nil _ _ _ _ _ | exact Kd.V_nil _ _ _ _ _ | exact Kd.Q_nil _ _ _ _ _ | exact Kd.S_nil _ _ _ _ _⟩, ⟨bkx_ kS.out⟩, ⟨bb_⟩⟩
  case round =>
   clear H'; (try clear c1); (try clear p2); (try clear c5); (try clear pV); (try clear TB); (try clear c7); (try clear ET F6); (try clear b4D); (try clear aZO); (try clear JB aDG aE8 aD3 aFT b9A bAE bAG FP F5); (try clear b2H); (try clear b0G); (try clear J9 aDR aFB aEH aF6 bEN bDH b99); obtain ⟨a10, aW, rfl, HA, kY, vO, kS, HB⟩ := hrel
   cases gk with
   | zero => exact absurd HA.out (by simp [impl_Plan_kids.l0])
   | succ k1 =>
    have H := HA.out; clear HA; simp only [impl_Plan_kids.l0] at H
    by_cases c8 : aW < (aH.length : Int)
    ·rw [if_pos c8] at H
     have LG := decide_eq_true c8; clear c8
     by_cases c9 : 0 ≤ aW
     ·rw [if_pos c9] at H
      have yP := decide_eq_true c9; clear c9
      by_cases c10 : aW < (aH.length : Int)
      ·rw [if_pos c10] at H
       have b80 := decide_eq_true c10; clear c10; replace H := bsi_ H; obtain ⟨a6V, aFY, H⟩ := H
       try dsimp only at H
       have UC := am_ aFY; clear aFY
       by_cases c12 : a6V < 0
       ·rw [if_pos c12] at H
        have yU := decide_eq_true c12; clear c12; simp only [Option.some.injEq, Prod.mk.injEq] at H; obtain ⟨rfl, rfl⟩ := H; (have aF2 : 0 ≤ (aW : Int) := oa_); (have aDB : aW < (aH.length : Int) := oa_); obtain ⟨aJW, nO, pJ, rF, rD, yF, yE, b9H, QQ, MI, R9, O8, SL, NN, KP, P9, R8, QZ, E9, EX, OG, JV, QP, OE, FM, EB⟩ := F4 dZ.out aW aF2 aDB; cases b9H; replace QQ := hb_ HB QQ; replace MI := hb_ HB MI; replace R9 := hb_ HB R9; replace O8 := hb_ HB O8; replace SL := hb_ HB SL; replace NN := hb_ HB NN; replace KP := hb_ HB KP; replace P9 := hb_ HB P9; replace R8 := hb_ HB R8; replace QZ := hb_ HB QZ; replace E9 := hb_ HB E9; replace EX := hb_ HB EX; have a2X := am_ JV; have a2H := am_ OG; clear JV OG; have a1B := am_ OE; have a7V := am_ QP; clear OE QP; have YV := am_ EB; have XI := am_ FM; clear EB FM; replace aF2 := eq_true aF2; replace aDB := eq_true aDB
        go_wp2_with (first | ((with_reducible refine gate_dst (N := 12) rfl ?_); refine bx_ 12 #[.int .i64 0, .string (⟨#[]⟩ : ByteArray), .int .i64 0, .int .i64 0, .int .i64 0, .int .i64 0, .string (⟨#[]⟩ : ByteArray), .string (⟨#[]⟩ : ByteArray), .slice none 0 0, .slice none 0 0, .int .i64 0, .slice none 0 0] 42 ?_; intro iY hg w13 hbox hb; have wU := am_ (hbox); have c7S := gw_ hg; have b81 := gw_ hg; have dS := nl_ hg kS; have TH := ng_ hg kS; replace vO := am_ (Kd.R_below (rk_ vO.out) hb); replace kS := bkb_ kS hb; replace HB := bs_ hb; clear hb hbox hg; have aQK := TH.out; have aTM := dS.out; obtain ⟨mV, mI, oP, CG, BI, BX, zR, aMW, aGR, aL1, aAY, aB6, mK, mW, oQ, CW, C8, BS, BZ, aMD, aMZ, aGO, aBW, aA0⟩ := b12_ wU) | ((with_reducible refine gate_callee (f := 27) rfl ?_); refine gsL_ (some 30) Tryz.func27 #[.slice A1 l1.length c1, .agg #[.int .i64 ((rd_T42 aH aW).f0), .string ((rd_T42 aH aW).f1), .int .i64 ((rd_T42 aH aW).f2.f0), .int .i64 ((rd_T42 aH aW).f2.f1), .int .i64 ((rd_T42 aH aW).f2.f2.f0), .int .i64 ((rd_T42 aH aW).f2.f2.f1), .string ((rd_T42 aH aW).f2.f2.f2), .string ((rd_T42 aH aW).f2.f3), .slice nO ((rd_T42 aH aW).f2.f4).length pJ, .slice rF ((rd_T42 aH aW).f3).length rD, .int .i64 ((rd_T42 aH aW).f4), .slice yF ((rd_T42 aH aW).f5).length yE], .int .i64 (wrap64 (a2 + 1))] ?_; (with_reducible refine (EP _ _ l1 ((rd_T42 aH aW).f0) ((rd_T42 aH aW).f1) ((rd_T42 aH aW).f2.f0) ((rd_T42 aH aW).f2.f1) ((rd_T42 aH aW).f2.f2.f0) ((rd_T42 aH aW).f2.f2.f1) ((rd_T42 aH aW).f2.f2.f2) ((rd_T42 aH aW).f2.f3) _ _ ((rd_T42 aH aW).f2.f4) _ _ ((rd_T42 aH aW).f3) ((rd_T42 aH aW).f4) _ _ ((rd_T42 aH aW).f5) (wrap64 (a2 + 1)) a6V _ ?aK ?aT ?bB ?bC ?d9 ?cZ ?dY ?dW UC.out).mono ?_); (case aK => exact Kd.C_below HR1.out bb_); (case aT => exact U6.out); (case bB => exact Kd.C_below a2X.out bb_); (case bC => exact a2H.out); (case d9 => exact Kd.C_below a1B.out bb_); (case cZ => exact a7V.out); (case dY => exact Kd.C_below YV.out bb_); (case dW => exact XI.out); rintro e w16 ⟨rfl, hb⟩; refine ⟨_, rfl, ?_⟩; have n0_ := am_ (Kd.R_below (rk_ (Kd.R_mono (Kd.R_far (p := ⟨iY, 11, none⟩) (Kd.R_far (p := ⟨iY, 10, none⟩) (Kd.R_far (p := ⟨iY, 9, none⟩) (Kd.R_far (p := ⟨iY, 8, none⟩) (Kd.R_far (p := ⟨iY, 7, none⟩) (Kd.R_far (p := ⟨iY, 6, none⟩) (Kd.R_far (p := ⟨iY, 5, none⟩) (Kd.R_far (p := ⟨iY, 4, none⟩) (Kd.R_far (p := ⟨iY, 3, none⟩) (Kd.R_far (p := ⟨iY, 2, none⟩) (Kd.R_far (p := ⟨iY, 1, none⟩) (Kd.R_far (p := ⟨iY, 0, none⟩) (Kd.R_types vO.out wU.out (by decide)) (fun _ hk => hk.2) (.int .i64 ((rd_T42 aH aW).f0))) (fun _ hk => hk.2) (.string ((rd_T42 aH aW).f1))) (fun _ hk => hk.2) (.int .i64 ((rd_T42 aH aW).f2.f0))) (fun _ hk => hk.2) (.int .i64 ((rd_T42 aH aW).f2.f1))) (fun _ hk => hk.2) (.int .i64 ((rd_T42 aH aW).f2.f2.f0))) (fun _ hk => hk.2) (.int .i64 ((rd_T42 aH aW).f2.f2.f1))) (fun _ hk => hk.2) (.string ((rd_T42 aH aW).f2.f2.f2))) (fun _ hk => hk.2) (.string ((rd_T42 aH aW).f2.f3))) (fun _ hk => hk.2) (.slice nO ((rd_T42 aH aW).f2.f4).length pJ)) (fun _ hk => hk.2) (.slice rF ((rd_T42 aH aW).f3).length rD)) (fun _ hk => hk.2) (.int .i64 ((rd_T42 aH aW).f4))) (fun _ hk => hk.2) (.slice yF ((rd_T42 aH aW).f5).length yE)) (fun _ h_ => h_.1))) hb); have n1_ := am_ (blk_below (g := aCE) (o := .cells #[.int .i64 aD, .string aI, .int .i64 aJ, .int .i64 aM, .int .i64 aN, .int .i64 aQ, .string bF, .string bE, .slice cO bA.length cK, .slice dA aZ.length dB, .int .i64 aU, .slice (some aJW) aH.length bK] 42 (0, 0)) (by (with_reducible repeat (first | refine blk_drewN ?_ _ | refine blk_drew ?_ | refine blk_alloc ?_ _)); refine blk_far ?_ dS.out _; (with_reducible repeat (first | refine blk_drewN ?_ _ | refine blk_drew ?_ | refine blk_alloc ?_ _)); refine blk_far ?_ dS.out _; (with_reducible repeat (first | refine blk_drewN ?_ _ | refine blk_drew ?_ | refine blk_alloc ?_ _)); refine blk_far ?_ dS.out _; (with_reducible repeat (first | refine blk_drewN ?_ _ | refine blk_drew ?_ | refine blk_alloc ?_ _)); refine blk_far ?_ dS.out _; (with_reducible repeat (first | refine blk_drewN ?_ _ | refine blk_drew ?_ | refine blk_alloc ?_ _)); refine blk_far ?_ dS.out _; (with_reducible repeat (first | refine blk_drewN ?_ _ | refine blk_drew ?_ | refine blk_alloc ?_ _)); refine blk_far ?_ dS.out _; (with_reducible repeat (first | refine blk_drewN ?_ _ | refine blk_drew ?_ | refine blk_alloc ?_ _)); refine blk_far ?_ dS.out _; (with_reducible repeat (first | refine blk_drewN ?_ _ | refine blk_drew ?_ | refine blk_alloc ?_ _)); refine blk_far ?_ dS.out _; (with_reducible repeat (first | refine blk_drewN ?_ _ | refine blk_drew ?_ | refine blk_alloc ?_ _)); refine blk_far ?_ dS.out _; (with_reducible repeat (first | refine blk_drewN ?_ _ | refine blk_drew ?_ | refine blk_alloc ?_ _)); refine blk_far ?_ dS.out _; (with_reducible repeat (first | refine blk_drewN ?_ _ | refine blk_drew ?_ | refine blk_alloc ?_ _)); refine blk_far ?_ dS.out _; (with_reducible repeat (first | refine blk_drewN ?_ _ | refine blk_drew ?_ | refine blk_alloc ?_ _)); refine blk_far ?_ dS.out _; (with_reducible repeat (first | refine blk_drewN ?_ _ | refine blk_drew ?_ | refine blk_alloc ?_ _)); exact kS.out) hb); have iA := am_ (blk_below (g := iY) (o := .cells #[.int .i64 ((rd_T42 aH aW).f0), .string ((rd_T42 aH aW).f1), .int .i64 ((rd_T42 aH aW).f2.f0), .int .i64 ((rd_T42 aH aW).f2.f1), .int .i64 ((rd_T42 aH aW).f2.f2.f0), .int .i64 ((rd_T42 aH aW).f2.f2.f1), .string ((rd_T42 aH aW).f2.f2.f2), .string ((rd_T42 aH aW).f2.f3), .slice nO ((rd_T42 aH aW).f2.f4).length pJ, .slice rF ((rd_T42 aH aW).f3).length rD, .int .i64 ((rd_T42 aH aW).f4), .slice yF ((rd_T42 aH aW).f5).length yE] 42 (0, 0)) (by (with_reducible repeat (first | refine blk_drewN ?_ _ | refine blk_drew ?_ | refine blk_alloc ?_ _)); refine blk_put (cs := #[.int .i64 ((rd_T42 aH aW).f0), .string ((rd_T42 aH aW).f1), .int .i64 ((rd_T42 aH aW).f2.f0), .int .i64 ((rd_T42 aH aW).f2.f1), .int .i64 ((rd_T42 aH aW).f2.f2.f0), .int .i64 ((rd_T42 aH aW).f2.f2.f1), .string ((rd_T42 aH aW).f2.f2.f2), .string ((rd_T42 aH aW).f2.f3), .slice nO ((rd_T42 aH aW).f2.f4).length pJ, .slice rF ((rd_T42 aH aW).f3).length rD, .int .i64 ((rd_T42 aH aW).f4), .slice none 0 0]) ?_ 11 _ rfl; (with_reducible repeat (first | refine blk_drewN ?_ _ | refine blk_drew ?_ | refine blk_alloc ?_ _)); refine blk_put (cs := #[.int .i64 ((rd_T42 aH aW).f0), .string ((rd_T42 aH aW).f1), .int .i64 ((rd_T42 aH aW).f2.f0), .int .i64 ((rd_T42 aH aW).f2.f1), .int .i64 ((rd_T42 aH aW).f2.f2.f0), .int .i64 ((rd_T42 aH aW).f2.f2.f1), .string ((rd_T42 aH aW).f2.f2.f2), .string ((rd_T42 aH aW).f2.f3), .slice nO ((rd_T42 aH aW).f2.f4).length pJ, .slice rF ((rd_T42 aH aW).f3).length rD, .int .i64 0, .slice none 0 0]) ?_ 10 _ rfl; (with_reducible repeat (first | refine blk_drewN ?_ _ | refine blk_drew ?_ | refine blk_alloc ?_ _)); refine blk_put (cs := #[.int .i64 ((rd_T42 aH aW).f0), .string ((rd_T42 aH aW).f1), .int .i64 ((rd_T42 aH aW).f2.f0), .int .i64 ((rd_T42 aH aW).f2.f1), .int .i64 ((rd_T42 aH aW).f2.f2.f0), .int .i64 ((rd_T42 aH aW).f2.f2.f1), .string ((rd_T42 aH aW).f2.f2.f2), .string ((rd_T42 aH aW).f2.f3), .slice nO ((rd_T42 aH aW).f2.f4).length pJ, .slice none 0 0, .int .i64 0, .slice none 0 0]) ?_ 9 _ rfl; (with_reducible repeat (first | refine blk_drewN ?_ _ | refine blk_drew ?_ | refine blk_alloc ?_ _)); refine blk_put (cs := #[.int .i64 ((rd_T42 aH aW).f0), .string ((rd_T42 aH aW).f1), .int .i64 ((rd_T42 aH aW).f2.f0), .int .i64 ((rd_T42 aH aW).f2.f1), .int .i64 ((rd_T42 aH aW).f2.f2.f0), .int .i64 ((rd_T42 aH aW).f2.f2.f1), .string ((rd_T42 aH aW).f2.f2.f2), .string ((rd_T42 aH aW).f2.f3), .slice none 0 0, .slice none 0 0, .int .i64 0, .slice none 0 0]) ?_ 8 _ rfl; (with_reducible repeat (first | refine blk_drewN ?_ _ | refine blk_drew ?_ | refine blk_alloc ?_ _)); refine blk_put (cs := #[.int .i64 ((rd_T42 aH aW).f0), .string ((rd_T42 aH aW).f1), .int .i64 ((rd_T42 aH aW).f2.f0), .int .i64 ((rd_T42 aH aW).f2.f1), .int .i64 ((rd_T42 aH aW).f2.f2.f0), .int .i64 ((rd_T42 aH aW).f2.f2.f1), .string ((rd_T42 aH aW).f2.f2.f2), .string (⟨#[]⟩ : ByteArray), .slice none 0 0, .slice none 0 0, .int .i64 0, .slice none 0 0]) ?_ 7 _ rfl; (with_reducible repeat (first | refine blk_drewN ?_ _ | refine blk_drew ?_ | refine blk_alloc ?_ _)); refine blk_put (cs := #[.int .i64 ((rd_T42 aH aW).f0), .string ((rd_T42 aH aW).f1), .int .i64 ((rd_T42 aH aW).f2.f0), .int .i64 ((rd_T42 aH aW).f2.f1), .int .i64 ((rd_T42 aH aW).f2.f2.f0), .int .i64 ((rd_T42 aH aW).f2.f2.f1), .string (⟨#[]⟩ : ByteArray), .string (⟨#[]⟩ : ByteArray), .slice none 0 0, .slice none 0 0, .int .i64 0, .slice none 0 0]) ?_ 6 _ rfl; (with_reducible repeat (first | refine blk_drewN ?_ _ | refine blk_drew ?_ | refine blk_alloc ?_ _)); refine blk_put (cs := #[.int .i64 ((rd_T42 aH aW).f0), .string ((rd_T42 aH aW).f1), .int .i64 ((rd_T42 aH aW).f2.f0), .int .i64 ((rd_T42 aH aW).f2.f1), .int .i64 ((rd_T42 aH aW).f2.f2.f0), .int .i64 0, .string (⟨#[]⟩ : ByteArray), .string (⟨#[]⟩ : ByteArray), .slice none 0 0, .slice none 0 0, .int .i64 0, .slice none 0 0]) ?_ 5 _ rfl; (with_reducible repeat (first | refine blk_drewN ?_ _ | refine blk_drew ?_ | refine blk_alloc ?_ _)); refine blk_put (cs := #[.int .i64 ((rd_T42 aH aW).f0), .string ((rd_T42 aH aW).f1), .int .i64 ((rd_T42 aH aW).f2.f0), .int .i64 ((rd_T42 aH aW).f2.f1), .int .i64 0, .int .i64 0, .string (⟨#[]⟩ : ByteArray), .string (⟨#[]⟩ : ByteArray), .slice none 0 0, .slice none 0 0, .int .i64 0, .slice none 0 0]) ?_ 4 _ rfl; (with_reducible repeat (first | refine blk_drewN ?_ _ | refine blk_drew ?_ | refine blk_alloc ?_ _)); refine blk_put (cs := #[.int .i64 ((rd_T42 aH aW).f0), .string ((rd_T42 aH aW).f1), .int .i64 ((rd_T42 aH aW).f2.f0), .int .i64 0, .int .i64 0, .int .i64 0, .string (⟨#[]⟩ : ByteArray), .string (⟨#[]⟩ : ByteArray), .slice none 0 0, .slice none 0 0, .int .i64 0, .slice none 0 0]) ?_ 3 _ rfl; (with_reducible repeat (first | refine blk_drewN ?_ _ | refine blk_drew ?_ | refine blk_alloc ?_ _)); refine blk_put (cs := #[.int .i64 ((rd_T42 aH aW).f0), .string ((rd_T42 aH aW).f1), .int .i64 0, .int .i64 0, .int .i64 0, .int .i64 0, .string (⟨#[]⟩ : ByteArray), .string (⟨#[]⟩ : ByteArray), .slice none 0 0, .slice none 0 0, .int .i64 0, .slice none 0 0]) ?_ 2 _ rfl; (with_reducible repeat (first | refine blk_drewN ?_ _ | refine blk_drew ?_ | refine blk_alloc ?_ _)); refine blk_put (cs := #[.int .i64 ((rd_T42 aH aW).f0), .string (⟨#[]⟩ : ByteArray), .int .i64 0, .int .i64 0, .int .i64 0, .int .i64 0, .string (⟨#[]⟩ : ByteArray), .string (⟨#[]⟩ : ByteArray), .slice none 0 0, .slice none 0 0, .int .i64 0, .slice none 0 0]) ?_ 1 _ rfl; (with_reducible repeat (first | refine blk_drewN ?_ _ | refine blk_drew ?_ | refine blk_alloc ?_ _)); refine blk_put (cs := #[.int .i64 0, .string (⟨#[]⟩ : ByteArray), .int .i64 0, .int .i64 0, .int .i64 0, .int .i64 0, .string (⟨#[]⟩ : ByteArray), .string (⟨#[]⟩ : ByteArray), .slice none 0 0, .slice none 0 0, .int .i64 0, .slice none 0 0]) ?_ 0 _ rfl; (with_reducible repeat (first | refine blk_drewN ?_ _ | refine blk_drew ?_ | refine blk_alloc ?_ _)); exact wU.out) hb); have n3_ := bs_ hb; clear vO; clear kS; clear wU; clear HB; have vO := n0_; have kS := n1_; have wU := iA; have HB := n3_; clear n0_ n1_ iA n3_; (try clear hb)))
        go_ret2
        (exact ⟨_, rr_, by first | exact Kd.R_nil _ _ _ _ _ | exact Kd.N_nil _ _ _ _ _ | exact Kd.V_nil _ _ _ _ _ | exact Kd.Q_nil _ _ _ _ _ | exact Kd.S_nil _ _ _ _ _, by repeat (first | (with_reducible first | exact HB.out | apply below_alloc | apply pw_below_drewN | apply below_drew1 | refine below_set ?_ aR4.out | refine below_set ?_ b81.out) | exact HB.out)⟩)
       ·rw [if_neg c12] at H
        have yU := decide_eq_false c12; clear c12
        by_cases c17 : a10.length < 17592186044416
        ·rw [if_pos c17] at H
         have bW5 := am_ c17; clear c17; obtain ⟨bLE, aAX⟩ : ∃ y_ : List Int, y_ = (a10 ++ [a6V]) := ⟨_, rfl⟩; (replace H : (impl_Plan_kids.l0 E_ k1 l1 a2 bLE aH (aH.length : Int) (wrap64 (aW + 1))) = some (r1, r2) := by first | (rw [aAX]; with_reducible exact H) | (have gK := (Option.bind_some _ _).symm.trans H; rw [aAX]; with_reducible exact gK) | (have gK := (Option.bind_some _ _).symm.trans H; with_reducible exact gK) | with_reducible exact H | (rw [aAX]; exact H) | exact H); have c0I := am_ aAX; clear aAX; have H' := am_ H; clear H; (have aF2 : 0 ≤ (aW : Int) := oa_); (have aDB : aW < (aH.length : Int) := oa_); obtain ⟨aJW, nO, pJ, rF, rD, yF, yE, b9H, QQ, MI, R9, O8, SL, NN, KP, P9, R8, QZ, E9, EX, OG, JV, QP, OE, FM, EB⟩ := F4 dZ.out aW aF2 aDB; cases b9H; replace QQ := hb_ HB QQ; replace MI := hb_ HB MI; replace R9 := hb_ HB R9; replace O8 := hb_ HB O8; replace SL := hb_ HB SL; replace NN := hb_ HB NN; replace KP := hb_ HB KP; replace P9 := hb_ HB P9; replace R8 := hb_ HB R8; replace QZ := hb_ HB QZ; replace E9 := hb_ HB E9; replace EX := hb_ HB EX; have a2X := am_ JV; have a2H := am_ OG; clear JV OG; have a1B := am_ OE; have a7V := am_ QP; clear OE QP; have YV := am_ EB; have XI := am_ FM; clear EB FM; replace aF2 := eq_true aF2; replace aDB := eq_true aDB
         go_wp2_with (first | ((with_reducible refine gate_dst (N := 12) rfl ?_); refine bx_ 12 #[.int .i64 0, .string (⟨#[]⟩ : ByteArray), .int .i64 0, .int .i64 0, .int .i64 0, .int .i64 0, .string (⟨#[]⟩ : ByteArray), .string (⟨#[]⟩ : ByteArray), .slice none 0 0, .slice none 0 0, .int .i64 0, .slice none 0 0] 42 ?_; intro iY hg w18 hbox hb; have wU := am_ (hbox); have c7S := gw_ hg; have b81 := gw_ hg; have dS := nl_ hg kS; have TH := ng_ hg kS; replace vO := am_ (Kd.R_below (rk_ vO.out) hb); replace kS := bkb_ kS hb; replace HB := bs_ hb; clear hb hbox hg; have d0E := TH.out; have d1B := dS.out; obtain ⟨xC, xB, D5, IG, GU, GI, GL, a1W, a8G, a7B, a01, Z9, wM, wY, zW, GH, GR, GJ, IA, a3W, a6C, a1R, WY, YD⟩ := b12_ wU) | ((with_reducible refine gate_callee (f := 27) rfl ?_); refine gsL_ (some 30) Tryz.func27 #[.slice A1 l1.length c1, .agg #[.int .i64 ((rd_T42 aH aW).f0), .string ((rd_T42 aH aW).f1), .int .i64 ((rd_T42 aH aW).f2.f0), .int .i64 ((rd_T42 aH aW).f2.f1), .int .i64 ((rd_T42 aH aW).f2.f2.f0), .int .i64 ((rd_T42 aH aW).f2.f2.f1), .string ((rd_T42 aH aW).f2.f2.f2), .string ((rd_T42 aH aW).f2.f3), .slice nO ((rd_T42 aH aW).f2.f4).length pJ, .slice rF ((rd_T42 aH aW).f3).length rD, .int .i64 ((rd_T42 aH aW).f4), .slice yF ((rd_T42 aH aW).f5).length yE], .int .i64 (wrap64 (a2 + 1))] ?_; (with_reducible refine (EP _ _ l1 ((rd_T42 aH aW).f0) ((rd_T42 aH aW).f1) ((rd_T42 aH aW).f2.f0) ((rd_T42 aH aW).f2.f1) ((rd_T42 aH aW).f2.f2.f0) ((rd_T42 aH aW).f2.f2.f1) ((rd_T42 aH aW).f2.f2.f2) ((rd_T42 aH aW).f2.f3) _ _ ((rd_T42 aH aW).f2.f4) _ _ ((rd_T42 aH aW).f3) ((rd_T42 aH aW).f4) _ _ ((rd_T42 aH aW).f5) (wrap64 (a2 + 1)) a6V _ ?aK ?aT ?bB ?bC ?d9 ?cZ ?dY ?dW UC.out).mono ?_); (case aK => exact Kd.C_below HR1.out bb_); (case aT => exact U6.out); (case bB => exact Kd.C_below a2X.out bb_); (case bC => exact a2H.out); (case d9 => exact Kd.C_below a1B.out bb_); (case cZ => exact a7V.out); (case dY => exact Kd.C_below YV.out bb_); (case dW => exact XI.out); rintro e w21 ⟨rfl, hb⟩; refine ⟨_, rfl, ?_⟩; have n0_ := am_ (Kd.R_below (rk_ (Kd.R_mono (Kd.R_far (p := ⟨iY, 11, none⟩) (Kd.R_far (p := ⟨iY, 10, none⟩) (Kd.R_far (p := ⟨iY, 9, none⟩) (Kd.R_far (p := ⟨iY, 8, none⟩) (Kd.R_far (p := ⟨iY, 7, none⟩) (Kd.R_far (p := ⟨iY, 6, none⟩) (Kd.R_far (p := ⟨iY, 5, none⟩) (Kd.R_far (p := ⟨iY, 4, none⟩) (Kd.R_far (p := ⟨iY, 3, none⟩) (Kd.R_far (p := ⟨iY, 2, none⟩) (Kd.R_far (p := ⟨iY, 1, none⟩) (Kd.R_far (p := ⟨iY, 0, none⟩) (Kd.R_types vO.out wU.out (by decide)) (fun _ hk => hk.2) (.int .i64 ((rd_T42 aH aW).f0))) (fun _ hk => hk.2) (.string ((rd_T42 aH aW).f1))) (fun _ hk => hk.2) (.int .i64 ((rd_T42 aH aW).f2.f0))) (fun _ hk => hk.2) (.int .i64 ((rd_T42 aH aW).f2.f1))) (fun _ hk => hk.2) (.int .i64 ((rd_T42 aH aW).f2.f2.f0))) (fun _ hk => hk.2) (.int .i64 ((rd_T42 aH aW).f2.f2.f1))) (fun _ hk => hk.2) (.string ((rd_T42 aH aW).f2.f2.f2))) (fun _ hk => hk.2) (.string ((rd_T42 aH aW).f2.f3))) (fun _ hk => hk.2) (.slice nO ((rd_T42 aH aW).f2.f4).length pJ)) (fun _ hk => hk.2) (.slice rF ((rd_T42 aH aW).f3).length rD)) (fun _ hk => hk.2) (.int .i64 ((rd_T42 aH aW).f4))) (fun _ hk => hk.2) (.slice yF ((rd_T42 aH aW).f5).length yE)) (fun _ h_ => h_.1))) hb); have n1_ := am_ (blk_below (g := aCE) (o := .cells #[.int .i64 aD, .string aI, .int .i64 aJ, .int .i64 aM, .int .i64 aN, .int .i64 aQ, .string bF, .string bE, .slice cO bA.length cK, .slice dA aZ.length dB, .int .i64 aU, .slice (some aJW) aH.length bK] 42 (0, 0)) (by (with_reducible repeat (first | refine blk_drewN ?_ _ | refine blk_drew ?_ | refine blk_alloc ?_ _)); refine blk_far ?_ dS.out _; (with_reducible repeat (first | refine blk_drewN ?_ _ | refine blk_drew ?_ | refine blk_alloc ?_ _)); refine blk_far ?_ dS.out _; (with_reducible repeat (first | refine blk_drewN ?_ _ | refine blk_drew ?_ | refine blk_alloc ?_ _)); refine blk_far ?_ dS.out _; (with_reducible repeat (first | refine blk_drewN ?_ _ | refine blk_drew ?_ | refine blk_alloc ?_ _)); refine blk_far ?_ dS.out _; (with_reducible repeat (first | refine blk_drewN ?_ _ | refine blk_drew ?_ | refine blk_alloc ?_ _)); refine blk_far ?_ dS.out _; (with_reducible repeat (first | refine blk_drewN ?_ _ | refine blk_drew ?_ | refine blk_alloc ?_ _)); refine blk_far ?_ dS.out _; (with_reducible repeat (first | refine blk_drewN ?_ _ | refine blk_drew ?_ | refine blk_alloc ?_ _)); refine blk_far ?_ dS.out _; (with_reducible repeat (first | refine blk_drewN ?_ _ | refine blk_drew ?_ | refine blk_alloc ?_ _)); refine blk_far ?_ dS.out _; (with_reducible repeat (first | refine blk_drewN ?_ _ | refine blk_drew ?_ | refine blk_alloc ?_ _)); refine blk_far ?_ dS.out _; (with_reducible repeat (first | refine blk_drewN ?_ _ | refine blk_drew ?_ | refine blk_alloc ?_ _)); refine blk_far ?_ dS.out _; (with_reducible repeat (first | refine blk_drewN ?_ _ | refine blk_drew ?_ | refine blk_alloc ?_ _)); refine blk_far ?_ dS.out _; (with_reducible repeat (first | refine blk_drewN ?_ _ | refine blk_drew ?_ | refine blk_alloc ?_ _)); refine blk_far ?_ dS.out _; (with_reducible repeat (first | refine blk_drewN ?_ _ | refine blk_drew ?_ | refine blk_alloc ?_ _)); exact kS.out) hb); have iA := am_ (blk_below (g := iY) (o := .cells #[.int .i64 ((rd_T42 aH aW).f0), .string ((rd_T42 aH aW).f1), .int .i64 ((rd_T42 aH aW).f2.f0), .int .i64 ((rd_T42 aH aW).f2.f1), .int .i64 ((rd_T42 aH aW).f2.f2.f0), .int .i64 ((rd_T42 aH aW).f2.f2.f1), .string ((rd_T42 aH aW).f2.f2.f2), .string ((rd_T42 aH aW).f2.f3), .slice nO ((rd_T42 aH aW).f2.f4).length pJ, .slice rF ((rd_T42 aH aW).f3).length rD, .int .i64 ((rd_T42 aH aW).f4), .slice yF ((rd_T42 aH aW).f5).length yE] 42 (0, 0)) (by (with_reducible repeat (first | refine blk_drewN ?_ _ | refine blk_drew ?_ | refine blk_alloc ?_ _)); refine blk_put (cs := #[.int .i64 ((rd_T42 aH aW).f0), .string ((rd_T42 aH aW).f1), .int .i64 ((rd_T42 aH aW).f2.f0), .int .i64 ((rd_T42 aH aW).f2.f1), .int .i64 ((rd_T42 aH aW).f2.f2.f0), .int .i64 ((rd_T42 aH aW).f2.f2.f1), .string ((rd_T42 aH aW).f2.f2.f2), .string ((rd_T42 aH aW).f2.f3), .slice nO ((rd_T42 aH aW).f2.f4).length pJ, .slice rF ((rd_T42 aH aW).f3).length rD, .int .i64 ((rd_T42 aH aW).f4), .slice none 0 0]) ?_ 11 _ rfl; (with_reducible repeat (first | refine blk_drewN ?_ _ | refine blk_drew ?_ | refine blk_alloc ?_ _)); refine blk_put (cs := #[.int .i64 ((rd_T42 aH aW).f0), .string ((rd_T42 aH aW).f1), .int .i64 ((rd_T42 aH aW).f2.f0), .int .i64 ((rd_T42 aH aW).f2.f1), .int .i64 ((rd_T42 aH aW).f2.f2.f0), .int .i64 ((rd_T42 aH aW).f2.f2.f1), .string ((rd_T42 aH aW).f2.f2.f2), .string ((rd_T42 aH aW).f2.f3), .slice nO ((rd_T42 aH aW).f2.f4).length pJ, .slice rF ((rd_T42 aH aW).f3).length rD, .int .i64 0, .slice none 0 0]) ?_ 10 _ rfl; (with_reducible repeat (first | refine blk_drewN ?_ _ | refine blk_drew ?_ | refine blk_alloc ?_ _)); refine blk_put (cs := #[.int .i64 ((rd_T42 aH aW).f0), .string ((rd_T42 aH aW).f1), .int .i64 ((rd_T42 aH aW).f2.f0), .int .i64 ((rd_T42 aH aW).f2.f1), .int .i64 ((rd_T42 aH aW).f2.f2.f0), .int .i64 ((rd_T42 aH aW).f2.f2.f1), .string ((rd_T42 aH aW).f2.f2.f2), .string ((rd_T42 aH aW).f2.f3), .slice nO ((rd_T42 aH aW).f2.f4).length pJ, .slice none 0 0, .int .i64 0, .slice none 0 0]) ?_ 9 _ rfl; (with_reducible repeat (first | refine blk_drewN ?_ _ | refine blk_drew ?_ | refine blk_alloc ?_ _)); refine blk_put (cs := #[.int .i64 ((rd_T42 aH aW).f0), .string ((rd_T42 aH aW).f1), .int .i64 ((rd_T42 aH aW).f2.f0), .int .i64 ((rd_T42 aH aW).f2.f1), .int .i64 ((rd_T42 aH aW).f2.f2.f0), .int .i64 ((rd_T42 aH aW).f2.f2.f1), .string ((rd_T42 aH aW).f2.f2.f2), .string ((rd_T42 aH aW).f2.f3), .slice none 0 0, .slice none 0 0, .int .i64 0, .slice none 0 0]) ?_ 8 _ rfl; (with_reducible repeat (first | refine blk_drewN ?_ _ | refine blk_drew ?_ | refine blk_alloc ?_ _)); refine blk_put (cs := #[.int .i64 ((rd_T42 aH aW).f0), .string ((rd_T42 aH aW).f1), .int .i64 ((rd_T42 aH aW).f2.f0), .int .i64 ((rd_T42 aH aW).f2.f1), .int .i64 ((rd_T42 aH aW).f2.f2.f0), .int .i64 ((rd_T42 aH aW).f2.f2.f1), .string ((rd_T42 aH aW).f2.f2.f2), .string (⟨#[]⟩ : ByteArray), .slice none 0 0, .slice none 0 0, .int .i64 0, .slice none 0 0]) ?_ 7 _ rfl; (with_reducible repeat (first | refine blk_drewN ?_ _ | refine blk_drew ?_ | refine blk_alloc ?_ _)); refine blk_put (cs := #[.int .i64 ((rd_T42 aH aW).f0), .string ((rd_T42 aH aW).f1), .int .i64 ((rd_T42 aH aW).f2.f0), .int .i64 ((rd_T42 aH aW).f2.f1), .int .i64 ((rd_T42 aH aW).f2.f2.f0), .int .i64 ((rd_T42 aH aW).f2.f2.f1), .string (⟨#[]⟩ : ByteArray), .string (⟨#[]⟩ : ByteArray), .slice none 0 0, .slice none 0 0, .int .i64 0, .slice none 0 0]) ?_ 6 _ rfl; (with_reducible repeat (first | refine blk_drewN ?_ _ | refine blk_drew ?_ | refine blk_alloc ?_ _)); refine blk_put (cs := #[.int .i64 ((rd_T42 aH aW).f0), .string ((rd_T42 aH aW).f1), .int .i64 ((rd_T42 aH aW).f2.f0), .int .i64 ((rd_T42 aH aW).f2.f1), .int .i64 ((rd_T42 aH aW).f2.f2.f0), .int .i64 0, .string (⟨#[]⟩ : ByteArray), .string (⟨#[]⟩ : ByteArray), .slice none 0 0, .slice none 0 0, .int .i64 0, .slice none 0 0]) ?_ 5 _ rfl; (with_reducible repeat (first | refine blk_drewN ?_ _ | refine blk_drew ?_ | refine blk_alloc ?_ _)); refine blk_put (cs := #[.int .i64 ((rd_T42 aH aW).f0), .string ((rd_T42 aH aW).f1), .int .i64 ((rd_T42 aH aW).f2.f0), .int .i64 ((rd_T42 aH aW).f2.f1), .int .i64 0, .int .i64 0, .string (⟨#[]⟩ : ByteArray), .string (⟨#[]⟩ : ByteArray), .slice none 0 0, .slice none 0 0, .int .i64 0, .slice none 0 0]) ?_ 4 _ rfl; (with_reducible repeat (first | refine blk_drewN ?_ _ | refine blk_drew ?_ | refine blk_alloc ?_ _)); refine blk_put (cs := #[.int .i64 ((rd_T42 aH aW).f0), .string ((rd_T42 aH aW).f1), .int .i64 ((rd_T42 aH aW).f2.f0), .int .i64 0, .int .i64 0, .int .i64 0, .string (⟨#[]⟩ : ByteArray), .string (⟨#[]⟩ : ByteArray), .slice none 0 0, .slice none 0 0, .int .i64 0, .slice none 0 0]) ?_ 3 _ rfl; (with_reducible repeat (first | refine blk_drewN ?_ _ | refine blk_drew ?_ | refine blk_alloc ?_ _)); refine blk_put (cs := #[.int .i64 ((rd_T42 aH aW).f0), .string ((rd_T42 aH aW).f1), .int .i64 0, .int .i64 0, .int .i64 0, .int .i64 0, .string (⟨#[]⟩ : ByteArray), .string (⟨#[]⟩ : ByteArray), .slice none 0 0, .slice none 0 0, .int .i64 0, .slice none 0 0]) ?_ 2 _ rfl; (with_reducible repeat (first | refine blk_drewN ?_ _ | refine blk_drew ?_ | refine blk_alloc ?_ _)); refine blk_put (cs := #[.int .i64 ((rd_T42 aH aW).f0), .string (⟨#[]⟩ : ByteArray), .int .i64 0, .int .i64 0, .int .i64 0, .int .i64 0, .string (⟨#[]⟩ : ByteArray), .string (⟨#[]⟩ : ByteArray), .slice none 0 0, .slice none 0 0, .int .i64 0, .slice none 0 0]) ?_ 1 _ rfl; (with_reducible repeat (first | refine blk_drewN ?_ _ | refine blk_drew ?_ | refine blk_alloc ?_ _)); refine blk_put (cs := #[.int .i64 0, .string (⟨#[]⟩ : ByteArray), .int .i64 0, .int .i64 0, .int .i64 0, .int .i64 0, .string (⟨#[]⟩ : ByteArray), .string (⟨#[]⟩ : ByteArray), .slice none 0 0, .slice none 0 0, .int .i64 0, .slice none 0 0]) ?_ 0 _ rfl; (with_reducible repeat (first | refine blk_drewN ?_ _ | refine blk_drew ?_ | refine blk_alloc ?_ _)); exact wU.out) hb); have n3_ := bs_ hb; clear vO; clear kS; clear wU; clear HB; have vO := n0_; have kS := n1_; have wU := iA; have HB := n3_; clear n0_ n1_ iA n3_; (try clear hb)) | ((with_reducible refine gate_builtin (b := .append) (xs := #[.tmp 33, .tmp 35]) rfl ?_); at_builtin; refine Kd.R_append (Kd.int .i64) (w0 := w) w.heap.size rfl (.tmp 33) (.tmp 35) 99 3 (.int .i64 0) 8 rfl Tryz.underlying99 info3 rfl (by decide) (by omega) u10 a10 a6V [.int .i64 a6V] (fun _ => True) (fun _ => False) rfl rfl ?aP (fun _ hk => hk.elim) ?aF ?aO ?aB ?aS ?aL ?_; (case aP => exact rfl); (case aB => exact bb_); (case aF => exact (fun _ _ => trivial)); (case aO => exact (rk_ vO.out)); (case aS => exact (below_size bb_)); (case aL => have := bW5.out; omega); intro d4A w22 ho hb hg hat; rw [← c0I.out] at ho; have bZI := am_ (ho); replace kS := am_ (blk_grown (g := aCE) (o := .cells #[.int .i64 aD, .string aI, .int .i64 aJ, .int .i64 aM, .int .i64 aN, .int .i64 aQ, .string bF, .string bE, .slice cO bA.length cK, .slice dA aZ.length dB, .int .i64 aU, .slice (some aJW) aH.length bK] 42 (0, 0)) (bkx_ kS.out) hg (Kd.R_ne vO.out kS.out (by decide))); replace wU := am_ (blk_grown (g := iY) (o := .cells #[.int .i64 ((rd_T42 aH aW).f0), .string ((rd_T42 aH aW).f1), .int .i64 ((rd_T42 aH aW).f2.f0), .int .i64 ((rd_T42 aH aW).f2.f1), .int .i64 ((rd_T42 aH aW).f2.f2.f0), .int .i64 ((rd_T42 aH aW).f2.f2.f1), .string ((rd_T42 aH aW).f2.f2.f2), .string ((rd_T42 aH aW).f2.f3), .slice nO ((rd_T42 aH aW).f2.f4).length pJ, .slice rF ((rd_T42 aH aW).f3).length rD, .int .i64 ((rd_T42 aH aW).f4), .slice yF ((rd_T42 aH aW).f5).length yE] 42 (0, 0)) (bkx_ wU.out) hg (Kd.R_ne vO.out wU.out (by decide))); replace HB := am_ (hb); clear vO; clear ho hb hg hat))
         go_roundg k1
         case measure => have := kY.out; omega
         case rel => exact ⟨(bLE), (wrap64 (aW + 1)), rs_, H', ⟨by have := kY.out; omega⟩, ⟨by (with_reducible repeat (first | apply Kd.R_alloc | apply Kd.R_drewN | apply Kd.R_drew)); exact bZI.out⟩, ⟨bkx_ kS.out⟩, ⟨bb_⟩⟩
        ·rw [if_neg c17] at H
         exact nn_ H
      ·rw [if_neg c10] at H
       exact nn_ H
     ·rw [if_neg c9] at H
      exact nn_ H
    ·rw [if_neg c8] at H
     have LG := decide_eq_false c8; clear c8; simp only [Option.some.injEq, Prod.mk.injEq] at H; obtain ⟨rfl, rfl⟩ := H
     go_wp2
     go_ret2
     (exact ⟨_, rr_, by (with_reducible repeat (first | apply Kd.R_alloc | apply Kd.R_drewN | apply Kd.R_drew)); exact vO.out, bTV⟩)
 ·rw [if_neg c5] at H
  have pV : ((aH.length : Int) == a3) = false := beq_eq_false_iff_ne.mpr c5; have TB : ((aH.length : Int) != a3) = true := bne_iff_ne.mpr c5; simp only [Option.some.injEq, Prod.mk.injEq] at H; obtain ⟨rfl, rfl⟩ := H
  go_enter Tryz.func73, Tryz.ntmps73
  go_wp2_with (first | ((with_reducible refine gate_dst (N := 4) rfl ?_); refine bx_ 4 #[.int .i64 aD, .string aI, .int .i64 aJ, .int .i64 aM, .int .i64 aN, .int .i64 aQ, .string bF, .string bE, .slice cO bA.length cK, .slice dA aZ.length dB, .int .i64 aU, .slice bM aH.length bK] 42 ?_; intro aCE hg w23 hbox hb; have kS := am_ (hbox); have c1N := gw_ hg; have aR4 := gw_ hg; replace HB := bs_ hb; clear hb hbox hg; obtain ⟨VJ, V3, VL, a3O, a5L, a2B, a8Q, b54, b5P, aYE, aPZ, aR9, V6, VC, VG, a9C, a1V, a3C, a9B, aYQ, aX7, aZ8, aSJ, aT8⟩ := b12_ kS))
  go_ret2
  (exact ⟨_, rr_, by first | exact Kd.R_nil _ _ _ _ _ | exact Kd.N_nil _ _ _ _ _ | exact Kd.V_nil _ _ _ _ _ | exact Kd.Q_nil _ _ _ _ _ | exact Kd.S_nil _ _ _ _ _, bTV⟩)

/-! ### slices.IndexFunc[[]loop.example/g00312/impl.Exp,loop.example/g00312/impl.Exp]: function 122 -/
set_option maxHeartbeats 4000000 in
theorem a0C.calls (f : S39 → Option Bool) (g : Nat) (lb : Array Value) (eg : ∀ args w, (callFunc g args).run Tryz.prog w = .ok (.enter g args) w) (A : Option Addr) (c : Nat) (xs : List S39) (r : Int) (w : World) (hr : Kd.C gL w A xs.length xs) (hp : CB Tryz.prog gL (fun cs => Value.agg cs.toArray) g lb f xs w) (h : idxO f xs 0 = some r) :
  Calls Tryz.prog 122 #[.slice A xs.length c, .func (.func g) #[] lb] w fun e w' => e = .returned (.int .i64 r) ∧ Below w.heap.size w w' := by
 have hbig : xs.length ≤ 9223372036854775807 := hr.2.1
 have HR := am_ hr
 have HP := am_ hp
 have HX := am_ h
 clear hr hp h
 go_enter Tryz.func122, Tryz.ntmps122
 go_wp2
 go_loopg [5, 8] xs.length (fun gg _ s8 wr => ∃ x : Int, s8 = .int .i64 x ∧ Aside0 (0 ≤ x ∧ x ≤ xs.length ∧ xs.length - x.toNat ≤ gg ∧ idxO f (xs.drop x.toNat) x = some r ∧ Below w.heap.size w wr))
 case atStart => exact ⟨0, rfl, ⟨by omega, by omega, by simp, by simpa using HX.out, Below.refl _ _⟩⟩
 case round =>
  obtain ⟨x, rfl, HI⟩ := hrel; obtain ⟨x0, x1, hg, hi, BW⟩ := HI.out
  by_cases hlt : x < (xs.length : Int)
  ·have c4 : decide (x < (xs.length : Int)) = true := decide_eq_true hlt
   have c5 : decide (0 ≤ x) = true := decide_eq_true x0; obtain ⟨ad, cs, rfl, hl, hK, hcell⟩ := Kd.C_get (Kd.C_below HR.out BW) (z39 : S39) x x0 hlt; obtain ⟨b, hb, hm, ht, hf⟩ := idxO_step (z39 : S39) x0 hlt hi; generalize xs.getD x.toNat (z39 : S39) = p at hK hb hm; have hK0 := hK; obtain ⟨aA6, aC6, rfl, _, _⟩ := wE hK; have hcell1 : ∀ j u, ([(.int .i64 p.f0), (.int .i64 p.f1), (.int .i64 p.f2.f0), (.int .i64 p.f2.f1), (.string p.f2.f2), (.string p.f3), (.slice aA6 p.f4.length aC6)] : List Value)[j]? = some u → wr.cell? (ad.add (x.toNat * 7 + j)) = some u := hcell; have hc0 : wr.cell? (ad.add (x.toNat * 7)) = some (.int .i64 p.f0) := hcell1 0 _ rfl; (have hc1 : wr.cell? ⟨(ad.add (x.toNat * 7)).block, (ad.add (x.toNat * 7)).off + 1, none⟩ = some (.int .i64 p.f1) := by rw [← add_field _ _ 1 (by omega)]; exact hcell1 1 _ rfl); (have hc2 : wr.cell? ⟨(ad.add (x.toNat * 7)).block, (ad.add (x.toNat * 7)).off + 2, none⟩ = some (.int .i64 p.f2.f0) := by rw [← add_field _ _ 2 (by omega)]; exact hcell1 2 _ rfl); (have hc3 : wr.cell? ⟨(ad.add (x.toNat * 7)).block, (ad.add (x.toNat * 7)).off + 3, none⟩ = some (.int .i64 p.f2.f1) := by rw [← add_field _ _ 3 (by omega)]; exact hcell1 3 _ rfl); (have hc4 : wr.cell? ⟨(ad.add (x.toNat * 7)).block, (ad.add (x.toNat * 7)).off + 4, none⟩ = some (.string p.f2.f2) := by rw [← add_field _ _ 4 (by omega)]; exact hcell1 4 _ rfl); (have hc5 : wr.cell? ⟨(ad.add (x.toNat * 7)).block, (ad.add (x.toNat * 7)).off + 5, none⟩ = some (.string p.f3) := by rw [← add_field _ _ 5 (by omega)]; exact hcell1 5 _ rfl); (have hc6 : wr.cell? ⟨(ad.add (x.toNat * 7)).block, (ad.add (x.toNat * 7)).off + 6, none⟩ = some (.slice aA6 p.f4.length aC6) := by rw [← add_field _ _ 6 (by omega)]; exact hcell1 6 _ rfl); have hcall : Calls Tryz.prog g (#[(.agg #[(.int .i64 p.f0), (.int .i64 p.f1), (.int .i64 p.f2.f0), (.int .i64 p.f2.f1), (.string p.f2.f2), (.string p.f3), (.slice aA6 p.f4.length aC6)])] ++ lb) wr (fun e w' => e = .returned (.bool b) ∧ Below wr.heap.size wr w') := HP.out wr _ _ b BW hm hK0 hb
   cases b with
   | true =>
    have HJ := am_ (And.intro (ht rfl) BW); clear hcell hcell1 hK hb hm ht hf hi BW HI hg hl hK0
    go_wp2_with (go_at_fn g; refine hcall.mono ?_; rintro e w' ⟨rfl, hb'⟩)
    go_ret
    exact ⟨ret_int_eq HJ.out.1.symm, HJ.out.2.trans (hb'.mono HJ.out.2.size)⟩
   | false =>
    have HJ := am_ (And.intro hg (And.intro (hf rfl) BW)); clear hcell hcell1 hK hb hm ht hf hi BW HI hg hl hK0
    go_wp2_with (go_at_fn g; refine hcall.mono ?_; rintro e w' ⟨rfl, hb'⟩)
    go_roundg (xs.length - (x.toNat + 1))
    case measure => have := HJ.out.1; omega
    case rel => exact ⟨x + 1, by go_num, ⟨by omega, by omega, by omega, HJ.out.2.1, HJ.out.2.2.trans (hb'.mono HJ.out.2.2.size)⟩⟩
  ·have c4 : decide (x < (xs.length : Int)) = false := decide_eq_false hlt
   have hr : r = -1 := idxO_end hlt hi; clear hi HI; subst hr
   go_wp2
   go_ret
   exact ⟨rfl, BW⟩

/-! ### slices.ContainsFunc[[]loop.example/g00312/impl.Exp,loop.example/g00312/impl.Exp]: function 100 -/
set_option maxHeartbeats 4000000 in
theorem TK.calls (f : S39 → Option Bool) (g : Nat) (lb : Array Value) (eg : ∀ args w, (callFunc g args).run Tryz.prog w = .ok (.enter g args) w) (A : Option Addr) (c : Nat) (xs : List S39) (r : Int) (w : World) (hr : Kd.C gL w A xs.length xs) (hp : CB Tryz.prog gL (fun cs => Value.agg cs.toArray) g lb f xs w) (h : idxO f xs 0 = some r) :
  Calls Tryz.prog 100 #[.slice A xs.length c, .func (.func g) #[] lb] w fun e w' => e = .returned (.bool (decide (r ≥ 0))) ∧ Below w.heap.size w w' := by
 have hcall := a0C.calls f g lb eg A c xs r w hr hp h
 clear hr hp h
 go_enter Tryz.func100, Tryz.ntmps100
 go_wp2_with (go_at_call 122; refine hcall.mono ?_; rintro e w' ⟨rfl, hb'⟩)
 go_ret
 exact ⟨rfl, hb'⟩

-- NOT PRINTED: function 101 (impl_Exp_1)

/-! ### loop.example/g00312/impl.areAll[loop.example/g00312/impl.Exp]: function 75 -/
set_option maxHeartbeats 4000000 in
theorem vV.not (f : S39 → Option Bool) (g : Nat) (lb : Array Value) (eg : ∀ args w, (callFunc g args).run Tryz.prog w = .ok (.enter g args) w) (B : Nat) (xs : List S39) (w : World) (hB : B < w.heap.size) (hp : CB Tryz.prog gL (fun cs => Value.agg cs.toArray) g lb f xs w) (hc : w.cell? ⟨B, 0, none⟩ = some (.func (.func g) #[] lb)) :
  CB Tryz.prog gL (fun cs => Value.agg cs.toArray) 101 #[.pointer (some ⟨B, 0, none⟩)] (fun x => (f x).map not) xs w := by
   intro W x cs b hb hm hK hf; obtain ⟨t, ht, rfl⟩ := Option.map_eq_some_iff.1 hf; have hK0 := hK; have hc' : W.cell? ⟨B, 0, none⟩ = some (.func (.func g) #[] lb) := (hb.cell (p := ⟨B, 0, none⟩) hB).trans hc; obtain ⟨aA6, aC6, rfl, _, _⟩ := wE hK; (have hcall : ∀ W1, Below W.heap.size W W1 → Calls Tryz.prog g (#[(.agg #[(.int .i64 x.f0), (.int .i64 x.f1), (.int .i64 x.f2.f0), (.int .i64 x.f2.f1), (.string x.f2.f2), (.string x.f3), (.slice aA6 x.f4.length aC6)])] ++ lb) W1 (fun e w' => e = .returned (.bool t) ∧ Below W1.heap.size W1 w') := fun W1 h1 => hp W1 x _ t (hb.trans (h1.mono hb.size)) hm (Kd.K_below _ h1 hK0) ht); (have hcd := fun o : Obj => cell_alloc_old o hc'); (have HN := am_ (show B ≠ W.heap.size from fun e => by have := hb.size; omega)); clear hp hf hK hK0 hm hb hc ht; have hBW := HN.out; have hBW' := Ne.symm hBW
   show Calls Tryz.prog 101 #[(.agg #[(.int .i64 x.f0), (.int .i64 x.f1), (.int .i64 x.f2.f0), (.int .i64 x.f2.f1), (.string x.f2.f2), (.string x.f3), (.slice aA6 x.f4.length aC6)]), .pointer (some ⟨B, 0, none⟩)] W _
   go_enter Tryz.func101, Tryz.ntmps101
   go_wp2_with (go_at_fn g; refine (hcall _ (by first | exact Below.refl _ _ | exact below_alloc (Below.refl _ _) _)).mono ?_; rintro e w' ⟨rfl, hb'⟩)
   go_ret
   (exact ⟨rfl, by first | exact hb' | exact (below_alloc (Below.refl _ _) _ : Below W.heap.size W _).trans (hb'.mono (by simp))⟩)
set_option maxHeartbeats 4000000 in
theorem vV.calls (f : S39 → Option Bool) (g : Nat) (lb : Array Value) (eg : ∀ args w, (callFunc g args).run Tryz.prog w = .ok (.enter g args) w) (A : Option Addr) (c : Nat) (xs : List S39) (r : Bool) (w : World) (hr : Kd.C gL w A xs.length xs) (hp : CB Tryz.prog gL (fun cs => Value.agg cs.toArray) g lb f xs w) (h : allO f xs = some r) :
  Calls Tryz.prog 75 #[.slice A xs.length c, .func (.func g) #[] lb] w fun e w' => e = .returned (.bool r) ∧ Below w.heap.size w w' := by
 obtain ⟨j, hj, hjr⟩ := idxO_not h 0 (Int.le_refl _)
 have e_l : ∀ args w, (callFunc 101 args).run Tryz.prog w = .ok (.enter 101 args) w := enters_of Tryz.func101 (by kernel_rfl) rfl
 have hB0 : Below w.heap.size w (w.alloc (.cells #[.func (.func g) #[] lb] 115)) := below_alloc (Below.refl _ _) _
 have hp1 := CB.later hB0 hp
 have hnot := vV.not f g lb eg w.heap.size xs _ (by simp) hp1 (by simp)
 have hcall := TK.calls _ 101 _ e_l A c xs j _ (Kd.C_below hr hB0) hnot hj
 have HJ := am_ hjr
 clear hr hp h hjr hj hp1 hnot hB0
 go_enter Tryz.func75, Tryz.ntmps75
 go_wp2_with (go_at_call 100; refine hcall.mono ?_; rintro e w' ⟨rfl, hb'⟩)
 go_ret
 exact ⟨ret_bool_eq (by rw [HJ.out]; cases r <;> rfl), (below_alloc (Below.refl _ _) _ : Below w.heap.size w _).trans (hb'.mono (by simp))⟩

/-! ### impl_within: function 77 -/
def impl_within.f (a0 : Int) (a1 : Int) (a2 : Int) : Option (Bool) := if a1 ≤ a0 then (some (decide (a0 ≤ a2))) else (some false)
set_option maxHeartbeats 8000000 in
theorem impl_within.calls (a0 : Int) (a1 : Int) (a2 : Int) (r : Bool) (w : World) (h : impl_within.f a0 a1 a2 = some r) :
  Calls Tryz.prog 77 #[.int .i64 a0, .int .i64 a1, .int .i64 a2] w fun e w' => e = .returned (.bool r) ∧ Drawn0 w w' := by
 have H : (if a1 ≤ a0 then (some (decide (a0 ≤ a2))) else (some false)) = some r := h
 clear h
 by_cases c4 : a1 ≤ a0
 ·rw [if_pos c4] at H
  have gB := decide_eq_true c4; clear c4; obtain rfl := Option.some.inj H
  go_enter Tryz.func77, Tryz.ntmps77
  go_wp2
  go_ret
  (exact ⟨by first | rfl | (simp; done) | (simp [*]; done), by repeat (first | exact Drawn0.refl _ | apply Drawn0.step)⟩)
 ·rw [if_neg c4] at H
  have gB := decide_eq_false c4; clear c4; obtain rfl := Option.some.inj H
  go_enter Tryz.func77, Tryz.ntmps77
  go_wp2
  go_ret
  (exact ⟨by first | rfl | (simp; done) | (simp [*]; done), by repeat (first | exact Drawn0.refl _ | apply Drawn0.step)⟩)

/-! ### impl_ValueOk: function 126 -/
def impl_ValueOk.f (aD : Int) (aI : Int) (aJ : ByteArray) : Option (Bool) := if aD = 0 then (if aI = 0 then (some (aJ.toList == ([] : List UInt8))) else (some false)) else (if aD = 1 then (some (aJ.toList == ([] : List UInt8))) else (if aD = 2 then ((impl_within.f aI 0 1).bind fun aT7 => (if aT7 = true then (some (aJ.toList == ([] : List UInt8))) else (some false))) else (if aD = 3 then (if aI = 0 then (some (decide ((aJ.size : Int) ≤ 100))) else (some false)) else (some false))))
set_option maxHeartbeats 8000000 in
theorem impl_ValueOk.calls (aD : Int) (aI : Int) (aJ : ByteArray) (r : Bool) (w : World) (h : impl_ValueOk.f aD aI aJ = some r) :
  Calls Tryz.prog 126 #[.agg #[.int .i64 aD, .int .i64 aI, .string aJ]] w fun e w' => e = .returned (.bool r) ∧ Below w.heap.size w w' := by
 have XJ := Tryz.underlying36
 have HB := am_ (Below.refl w.heap.size w)
 have H : (if aD = 0 then (if aI = 0 then (some (aJ.toList == ([] : List UInt8))) else (some false)) else (if aD = 1 then (some (aJ.toList == ([] : List UInt8))) else (if aD = 2 then ((impl_within.f aI 0 1).bind fun aT7 => (if aT7 = true then (some (aJ.toList == ([] : List UInt8))) else (some false))) else (if aD = 3 then (if aI = 0 then (some (decide ((aJ.size : Int) ≤ 100))) else (some false)) else (some false))))) = some r := h
 clear h
 by_cases c2 : aD = 0
 ·rw [if_pos c2] at H
  have JI : (aD == 0) = true := beq_iff_eq.mpr c2; have JD : (aD != 0) = false := bne_eq_false_iff_eq.mpr c2; clear c2
  by_cases c3 : aI = 0
  ·rw [if_pos c3] at H
   have fB : (aI == 0) = true := beq_iff_eq.mpr c3; have jG : (aI != 0) = false := bne_eq_false_iff_eq.mpr c3; clear c3; obtain rfl := Option.some.inj H
   go_enter Tryz.func126, Tryz.ntmps126
   go_wp2_with (first | ((with_reducible refine gate_dst (N := 1) rfl ?_); (try (refine gate_guard (by rfl) ?_; dsimp only)); refine bx_ 1 #[.int .i64 aD, .int .i64 aI, .string aJ] 36 ?_; intro X4 hg w4 hbox hb; have vZ := am_ (hbox); have XH := gw_ hg; have XD := gw_ hg; replace HB := bs_ hb; clear hb hbox hg; obtain ⟨TI, U2, TY, TT, TV, U1⟩ := b3_ vZ))
   go_ret
   exact ⟨er_, bb_⟩
  ·rw [if_neg c3] at H
   have fB : (aI == 0) = false := beq_eq_false_iff_ne.mpr c3; have jG : (aI != 0) = true := bne_iff_ne.mpr c3; obtain rfl := Option.some.inj H
   go_enter Tryz.func126, Tryz.ntmps126
   go_wp2_with (first | ((with_reducible refine gate_dst (N := 1) rfl ?_); (try (refine gate_guard (by rfl) ?_; dsimp only)); refine bx_ 1 #[.int .i64 aD, .int .i64 aI, .string aJ] 36 ?_; intro X4 hg w6 hbox hb; have vZ := am_ (hbox); have XH := gw_ hg; have XD := gw_ hg; replace HB := bs_ hb; clear hb hbox hg; obtain ⟨ET, F6, JB, FP, F5, J9⟩ := b3_ vZ))
   go_ret
   exact ⟨er_, bb_⟩
 ·rw [if_neg c2] at H
  have JI : (aD == 0) = false := beq_eq_false_iff_ne.mpr c2; have JD : (aD != 0) = true := bne_iff_ne.mpr c2
  by_cases c8 : aD = 1
  ·rw [if_pos c8] at H
   have LG : (aD == 1) = true := beq_iff_eq.mpr c8; have aBL : (aD != 1) = false := bne_eq_false_iff_eq.mpr c8; clear c8; obtain rfl := Option.some.inj H
   go_enter Tryz.func126, Tryz.ntmps126
   go_wp2_with (first | ((with_reducible refine gate_dst (N := 1) rfl ?_); (try (refine gate_guard (by rfl) ?_; dsimp only)); refine bx_ 1 #[.int .i64 aD, .int .i64 aI, .string aJ] 36 ?_; intro X4 hg w9 hbox hb; have vZ := am_ (hbox); have XH := gw_ hg; have XD := gw_ hg; replace HB := bs_ hb; clear hb hbox hg; obtain ⟨iM, iE, jW, iJ, iN, kF⟩ := b3_ vZ))
   go_ret
   exact ⟨er_, bb_⟩
  ·rw [if_neg c8] at H
   have LG : (aD == 1) = false := beq_eq_false_iff_ne.mpr c8; have aBL : (aD != 1) = true := bne_iff_ne.mpr c8
   by_cases c11 : aD = 2
   ·rw [if_pos c11] at H
    have a15 : (aD == 2) = true := beq_iff_eq.mpr c11; have aVT : (aD != 2) = false := bne_eq_false_iff_eq.mpr c11; clear c11; replace H := bsi_ H; obtain ⟨aT7, KF, H⟩ := H
    try dsimp only at H
    have A12 := am_ KF; clear KF
    by_cases c13 : aT7 = true
    ·subst c13
     rw [if_pos rfl] at H; obtain rfl := Option.some.inj H
     go_enter Tryz.func126, Tryz.ntmps126
     go_wp2_with (first | ((with_reducible refine gate_dst (N := 1) rfl ?_); (try (refine gate_guard (by rfl) ?_; dsimp only)); refine bx_ 1 #[.int .i64 aD, .int .i64 aI, .string aJ] 36 ?_; intro X4 hg w14 hbox hb; have vZ := am_ (hbox); have XH := gw_ hg; have XD := gw_ hg; replace HB := bs_ hb; clear hb hbox hg; obtain ⟨mV, mI, oP, mK, mW, oQ⟩ := b3_ vZ) | ((with_reducible refine gate_callee (f := 77) rfl ?_); refine gsL_ (some 24) Tryz.func77 #[.int .i64 aI, .int .i64 0, .int .i64 1] ?_; (with_reducible refine (impl_within.calls aI 0 1 true _ A12.out).mono ?_); rintro e w' ⟨rfl, ⟨nd, rfl⟩⟩; refine ⟨_, rfl, ?_⟩))
     go_ret
     exact ⟨er_, bb_⟩
    ·replace c13 := Bool.eq_false_iff.mpr c13
     subst c13; (rw [if_neg (show ¬ (false = true) by decide)] at H); obtain rfl := Option.some.inj H
     go_enter Tryz.func126, Tryz.ntmps126
     go_wp2_with (first | ((with_reducible refine gate_dst (N := 1) rfl ?_); (try (refine gate_guard (by rfl) ?_; dsimp only)); refine bx_ 1 #[.int .i64 aD, .int .i64 aI, .string aJ] 36 ?_; intro X4 hg w16 hbox hb; have vZ := am_ (hbox); have XH := gw_ hg; have XD := gw_ hg; replace HB := bs_ hb; clear hb hbox hg; obtain ⟨pO, oO, qL, pM, o6, qH⟩ := b3_ vZ) | ((with_reducible refine gate_callee (f := 77) rfl ?_); refine gsL_ (some 24) Tryz.func77 #[.int .i64 aI, .int .i64 0, .int .i64 1] ?_; (with_reducible refine (impl_within.calls aI 0 1 false _ A12.out).mono ?_); rintro e w' ⟨rfl, ⟨nd, rfl⟩⟩; refine ⟨_, rfl, ?_⟩))
     go_ret
     exact ⟨er_, bb_⟩
   ·rw [if_neg c11] at H
    have a15 : (aD == 2) = false := beq_eq_false_iff_ne.mpr c11; have aVT : (aD != 2) = true := bne_iff_ne.mpr c11
    by_cases c18 : aD = 3
    ·rw [if_pos c18] at H
     have a0Q : (aD == 3) = true := beq_iff_eq.mpr c18; have aSV : (aD != 3) = false := bne_eq_false_iff_eq.mpr c18; clear c18
     by_cases c19 : aI = 0
     ·rw [if_pos c19] at H
      have UM : (aI == 0) = true := beq_iff_eq.mpr c19; have a0K : (aI != 0) = false := bne_eq_false_iff_eq.mpr c19; clear c19; obtain rfl := Option.some.inj H
      go_enter Tryz.func126, Tryz.ntmps126
      go_wp2_with (first | ((with_reducible refine gate_dst (N := 1) rfl ?_); (try (refine gate_guard (by rfl) ?_; dsimp only)); refine bx_ 1 #[.int .i64 aD, .int .i64 aI, .string aJ] 36 ?_; intro X4 hg w20 hbox hb; have vZ := am_ (hbox); have XH := gw_ hg; have XD := gw_ hg; replace HB := bs_ hb; clear hb hbox hg; obtain ⟨xW, xY, IE, wS, xV, IU⟩ := b3_ vZ))
      go_ret
      exact ⟨er_, bb_⟩
     ·rw [if_neg c19] at H
      have UM : (aI == 0) = false := beq_eq_false_iff_ne.mpr c19; have a0K : (aI != 0) = true := bne_iff_ne.mpr c19; obtain rfl := Option.some.inj H
      go_enter Tryz.func126, Tryz.ntmps126
      go_wp2_with (first | ((with_reducible refine gate_dst (N := 1) rfl ?_); (try (refine gate_guard (by rfl) ?_; dsimp only)); refine bx_ 1 #[.int .i64 aD, .int .i64 aI, .string aJ] 36 ?_; intro X4 hg w22 hbox hb; have vZ := am_ (hbox); have XH := gw_ hg; have XD := gw_ hg; replace HB := bs_ hb; clear hb hbox hg; obtain ⟨lC, kV, kX, l7, kZ, kW⟩ := b3_ vZ))
      go_ret
      exact ⟨er_, bb_⟩
    ·rw [if_neg c18] at H
     have a0Q : (aD == 3) = false := beq_eq_false_iff_ne.mpr c18; have aSV : (aD != 3) = true := bne_iff_ne.mpr c18; obtain rfl := Option.some.inj H
     go_enter Tryz.func126, Tryz.ntmps126
     go_wp2_with (first | ((with_reducible refine gate_dst (N := 1) rfl ?_); (try (refine gate_guard (by rfl) ?_; dsimp only)); refine bx_ 1 #[.int .i64 aD, .int .i64 aI, .string aJ] 36 ?_; intro X4 hg w24 hbox hb; have vZ := am_ (hbox); have XH := gw_ hg; have XD := gw_ hg; replace HB := bs_ hb; clear hb hbox hg; obtain ⟨mU, mX, pQ, mP, mR, oJ⟩ := b3_ vZ))
     go_ret
     exact ⟨er_, bb_⟩

end Go.Proofs.YtnobhkmpkichdaaGreat.PFnExactWidth
