-- WRITTEN BY xprint.py, a program of this session over the kit's printer: by nobody's hand
-- PRESSED4 -- PRESSED TWICE3 -- PRESSED TWICE
import Derived.Test.YtnobhkmpkichdaaGreatPress
import Derived.Test.YtnobhkmpkichdaaGreatPress3
import Derived.Test.YtnobhkmpkichdaaGreatPFnExactWidthx0
import Derived.Test.YtnobhkmpkichdaaGreatPFnExactWidthx1
import Derived.Test.YtnobhkmpkichdaaGreatPFnExactWidthx2
namespace Go.Proofs.YtnobhkmpkichdaaGreat.PFnExactWidth
set_option maxRecDepth 100000
open Go.RowKit Go.Proofs.YtnobhkmpkichdaaGreatW.PrintWords Go.Proofs.YtnobhkmpkichdaaGreatW.PrintLast Go.Proofs.YtnobhkmpkichdaaGreatW.PrintMore
attribute [local go_sem] max2_int min2_int max_two min_two max_three min_three max_four min_four
set_option linter.unusedVariables false
set_option linter.unusedSimpArgs false

attribute [local go_sem high] aIF
/-! ### laws_szPlanS: function 21 -/
def laws_szPlanS.l0 (E_ : Int → ByteArray → Int → Int → Int → Int → ByteArray → ByteArray → (List (S27)) → (List (S27)) → Int → (List (S30)) → Int → Option (Int)) : Nat → List (S30) → Int → Int → Option (Int)
 | 0, _, _, _ => none
 | k + 1, x0, x1, x5 => if x5 < (x0.length : Int) then (if 0 ≤ x5 then ((E_ ((bN x0 x5).f0) ((bN x0 x5).f1) ((bN x0 x5).f2.f0) ((bN x0 x5).f2.f1) ((bN x0 x5).f2.f2.f0) ((bN x0 x5).f2.f2.f1) ((bN x0 x5).f2.f2.f2) ((bN x0 x5).f2.f3) ((bN x0 x5).f2.f4) ((bN x0 x5).f3) ((bN x0 x5).f4) ((bN x0 x5).f5) x1).bind fun aFG => (if aFG < 0 then (some (-1)) else (laws_szPlanS.l0 E_ k x0 aFG (wrap64 (x5 + 1))))) else (none)) else (some x1)
def laws_szPlanS.f (E_ : Int → ByteArray → Int → Int → Int → Int → ByteArray → ByteArray → (List (S27)) → (List (S27)) → Int → (List (S30)) → Int → Option (Int)) (k : Nat) (l0 : List (S30)) (a1 : Int) : Option (Int) := if (wrap64 (a1 - (l0.length : Int))) < 0 then (some (-1)) else (laws_szPlanS.l0 E_ k l0 (wrap64 (a1 - (l0.length : Int))) 0)
set_option maxHeartbeats 8000000 in
theorem laws_szPlanS.calls (E_ : Int → ByteArray → Int → Int → Int → Int → ByteArray → ByteArray → (List (S27)) → (List (S27)) → Int → (List (S30)) → Int → Option (Int)) (EP : ∀ (aD : Int) (aI : ByteArray) (aJ : Int) (aM : Int) (aN : Int) (aQ : Int) (bF : ByteArray) (bE : ByteArray) (cO : Option Addr) (cK : Nat) (bA : List (S27)) (dA : Option Addr) (dB : Nat) (aZ : List (S27)) (aU : Int) (bM : Option Addr) (bK : Nat) (aH : List (S30)) (a1 : Int) (r : Int) (w : World) (iL : Kd.C k27 w cO bA.length bA) (iR : bA.length ≤ cK) (iP : Kd.C k27 w dA aZ.length aZ) (iI : aZ.length ≤ dB) (fQ : Kd.C k30 w bM aH.length aH) (fZ : aH.length ≤ bK) (h : E_ aD aI aJ aM aN aQ bF bE bA aZ aU aH a1 = some r), Calls Tryz.prog 6 #[.agg #[.int .i64 aD, .string aI, .int .i64 aJ, .int .i64 aM, .int .i64 aN, .int .i64 aQ, .string bF, .string bE, .slice cO bA.length cK, .slice dA aZ.length dB, .int .i64 aU, .slice bM aH.length bK], .int .i64 a1] w fun e w' => e = .returned (.int .i64 r) ∧ Below w.heap.size w w') (k : Nat) (A0 : Option Addr) (c0 : Nat) (l0 : List (S30)) (a1 : Int) (r : Int) (w : World) (hr0 : Kd.C k30 w A0 l0.length l0) (hc0 : l0.length ≤ c0) (h : laws_szPlanS.f E_ k l0 a1 = some r) :
  Calls Tryz.prog 21 #[.slice A0 l0.length c0, .int .i64 a1] w fun e w' => e = .returned (.int .i64 r) ∧ Below w.heap.size w w' := by
 have b3U := Tryz.underlying30
 have jE := am_ hr0
 have wH := am_ hc0
 clear hr0 hc0
 have HB := am_ (Below.refl w.heap.size w)
 have H : (if (wrap64 (a1 - (l0.length : Int))) < 0 then (some (-1)) else (laws_szPlanS.l0 E_ k l0 (wrap64 (a1 - (l0.length : Int))) 0)) = some r := h
 clear h
 by_cases c3 : (wrap64 (a1 - (l0.length : Int))) < 0
 ·rw [if_pos c3] at H
  have fB := decide_eq_true c3; clear c3; obtain rfl := Option.some.inj H
  go_enter Tryz.func21, Tryz.ntmps21
  go_wp2
  go_ret
  exact ⟨er_, bb_⟩
 ·rw [if_neg c3] at H
  have fB := decide_eq_false c3; clear c3; have H' := am_ H; clear H
  go_enter Tryz.func21, Tryz.ntmps21
  go_wp2
  go_loopg [1, 5] k (fun kq v1 v5 w' => ∃ (jI : Int) (aC : Int), v1 = .int .i64 jI ∧ v5 = .int .i64 aC ∧ Aside0 (laws_szPlanS.l0 E_ kq l0 jI aC = some r) ∧ Aside0 (kq ≤ k) ∧ Aside0 (Below w.heap.size w w'))
  case atStart => exact ⟨(wrap64 (a1 - (l0.length : Int))), (0), rs_, rs_, H', ⟨Nat.le_refl _⟩, ⟨bb_⟩⟩
  case round =>
   clear H'; (try clear c2); (try clear p2); (try clear c3); (try clear fB); obtain ⟨jI, aC, rfl, rfl, HA, kY, HB⟩ := hrel
   cases gk with
   | zero => exact absurd HA.out (by simp [laws_szPlanS.l0])
   | succ k1 =>
    have H := HA.out; clear HA; simp only [laws_szPlanS.l0] at H
    by_cases c4 : aC < (l0.length : Int)
    ·rw [if_pos c4] at H
     have gB := decide_eq_true c4; clear c4
     by_cases c5 : 0 ≤ aC
     ·rw [if_pos c5] at H
      have pV := decide_eq_true c5; clear c5; replace H := bsi_ H; obtain ⟨aFG, A60, H⟩ := H
      try dsimp only at H
      have A6 := am_ A60; clear A60
      by_cases c7 : aFG < 0
      ·rw [if_pos c7] at H
       have gJ := decide_eq_true c7; clear c7; obtain rfl := Option.some.inj H; (have aDD : 0 ≤ (aC : Int) := oa_); (have aEQ : aC < (l0.length : Int) := oa_); obtain ⟨bSN, aEF, aDI, aD7, aDH, a6T, a8A, e119, O4, MC, RF, PX, NJ, SV, ML, QF, JM, PO, EI, EZ, JO, QK, O5, SH, EM, FR⟩ := aFD jE.out aC aDD aEQ; cases e119; replace O4 := hb_ HB O4; replace MC := hb_ HB MC; replace RF := hb_ HB RF; replace PX := hb_ HB PX; replace NJ := hb_ HB NJ; replace SV := hb_ HB SV; replace ML := hb_ HB ML; replace QF := hb_ HB QF; replace JM := hb_ HB JM; replace PO := hb_ HB PO; replace EI := hb_ HB EI; replace EZ := hb_ HB EZ; have a7S := am_ QK; have a3V := am_ JO; clear QK JO; have a8K := am_ SH; have a2P := am_ O5; clear SH O5; have Z4 := am_ FR; have ZI := am_ EM; clear FR EM; replace aDD := eq_true aDD; replace aEQ := eq_true aEQ
       go_wp2_with (first | ((with_reducible refine gate_callee (f := 6) rfl ?_); refine gsL_ (some 23) Tryz.func6 #[.agg #[.int .i64 ((bN l0 aC).f0), .string ((bN l0 aC).f1), .int .i64 ((bN l0 aC).f2.f0), .int .i64 ((bN l0 aC).f2.f1), .int .i64 ((bN l0 aC).f2.f2.f0), .int .i64 ((bN l0 aC).f2.f2.f1), .string ((bN l0 aC).f2.f2.f2), .string ((bN l0 aC).f2.f3), .slice aEF ((bN l0 aC).f2.f4).length aDI, .slice aD7 ((bN l0 aC).f3).length aDH, .int .i64 ((bN l0 aC).f4), .slice a6T ((bN l0 aC).f5).length a8A], .int .i64 jI] ?_; (with_reducible refine (EP ((bN l0 aC).f0) ((bN l0 aC).f1) ((bN l0 aC).f2.f0) ((bN l0 aC).f2.f1) ((bN l0 aC).f2.f2.f0) ((bN l0 aC).f2.f2.f1) ((bN l0 aC).f2.f2.f2) ((bN l0 aC).f2.f3) _ _ ((bN l0 aC).f2.f4) _ _ ((bN l0 aC).f3) ((bN l0 aC).f4) _ _ ((bN l0 aC).f5) jI aFG _ ?aK ?aT ?bB ?bC ?d9 ?cZ A6.out).mono ?_); (case aK => exact ck_ (Kd.C_below a7S.out HB.out)); (case aT => exact a3V.out); (case bB => exact ck_ (Kd.C_below a8K.out HB.out)); (case bC => exact a2P.out); (case d9 => exact ck_ (Kd.C_below Z4.out HB.out)); (case cZ => exact ZI.out); rintro e w8 ⟨rfl, hb⟩; refine ⟨_, rfl, ?_⟩; replace HB := bs_ hb; (try clear hb)))
       go_ret
       exact ⟨er_, bb_⟩
      ·rw [if_neg c7] at H
       have gJ := decide_eq_false c7; clear c7; have H' := am_ H; clear H; (have aDD : 0 ≤ (aC : Int) := oa_); (have aEQ : aC < (l0.length : Int) := oa_); obtain ⟨bSN, aEF, aDI, aD7, aDH, a6T, a8A, e119, O4, MC, RF, PX, NJ, SV, ML, QF, JM, PO, EI, EZ, JO, QK, O5, SH, EM, FR⟩ := aFD jE.out aC aDD aEQ; cases e119; replace O4 := hb_ HB O4; replace MC := hb_ HB MC; replace RF := hb_ HB RF; replace PX := hb_ HB PX; replace NJ := hb_ HB NJ; replace SV := hb_ HB SV; replace ML := hb_ HB ML; replace QF := hb_ HB QF; replace JM := hb_ HB JM; replace PO := hb_ HB PO; replace EI := hb_ HB EI; replace EZ := hb_ HB EZ; have a7S := am_ QK; have a3V := am_ JO; clear QK JO; have a8K := am_ SH; have a2P := am_ O5; clear SH O5; have Z4 := am_ FR; have ZI := am_ EM; clear FR EM; replace aDD := eq_true aDD; replace aEQ := eq_true aEQ
       go_wp2_with (first | ((with_reducible refine gate_callee (f := 6) rfl ?_); refine gsL_ (some 23) Tryz.func6 #[.agg #[.int .i64 ((bN l0 aC).f0), .string ((bN l0 aC).f1), .int .i64 ((bN l0 aC).f2.f0), .int .i64 ((bN l0 aC).f2.f1), .int .i64 ((bN l0 aC).f2.f2.f0), .int .i64 ((bN l0 aC).f2.f2.f1), .string ((bN l0 aC).f2.f2.f2), .string ((bN l0 aC).f2.f3), .slice aEF ((bN l0 aC).f2.f4).length aDI, .slice aD7 ((bN l0 aC).f3).length aDH, .int .i64 ((bN l0 aC).f4), .slice a6T ((bN l0 aC).f5).length a8A], .int .i64 jI] ?_; (with_reducible refine (EP ((bN l0 aC).f0) ((bN l0 aC).f1) ((bN l0 aC).f2.f0) ((bN l0 aC).f2.f1) ((bN l0 aC).f2.f2.f0) ((bN l0 aC).f2.f2.f1) ((bN l0 aC).f2.f2.f2) ((bN l0 aC).f2.f3) _ _ ((bN l0 aC).f2.f4) _ _ ((bN l0 aC).f3) ((bN l0 aC).f4) _ _ ((bN l0 aC).f5) jI aFG _ ?aK ?aT ?bB ?bC ?d9 ?cZ A6.out).mono ?_); (case aK => exact ck_ (Kd.C_below a7S.out HB.out)); (case aT => exact a3V.out); (case bB => exact ck_ (Kd.C_below a8K.out HB.out)); (case bC => exact a2P.out); (case d9 => exact ck_ (Kd.C_below Z4.out HB.out)); (case cZ => exact ZI.out); rintro e w9 ⟨rfl, hb⟩; refine ⟨_, rfl, ?_⟩; replace HB := bs_ hb; (try clear hb)))
       go_roundg k1
       case measure => have := kY.out; omega
       case rel => exact ⟨(aFG), (wrap64 (aC + 1)), rs_, rs_, H', ⟨by have := kY.out; omega⟩, ⟨bb_⟩⟩
     ·rw [if_neg c5] at H
      exact nn_ H
    ·rw [if_neg c4] at H
     have gB := decide_eq_false c4; clear c4; obtain rfl := Option.some.inj H
     go_wp2
     go_ret
     exact ⟨er_, bb_⟩

/-! ### laws_szPlan: function 6 -/
def laws_szPlan.f : Nat → Int → ByteArray → Int → Int → Int → Int → ByteArray → ByteArray → (List (S27)) → (List (S27)) → Int → (List (S30)) → Int → Option (Int)
 | 0, _, _, _, _, _, _, _, _, _, _, _, _, _ => none
 | k + 1, aD, aI, aJ, aM, aN, aQ, bF, bE, bA, aZ, aU, aH, a1 => if (wrap64 (a1 - (aI.size : Int))) < 0 then (some (-1)) else ((laws_szExp.f k aJ aM aN aQ bF bE bA (wrap64 (a1 - (aI.size : Int)))).bind fun F8 => (if F8 < 0 then (some (-1)) else ((laws_szExpS.f (laws_szExp.f k) k aZ F8).bind fun JW => (if JW < 0 then (some (-1)) else ((laws_szPlanS.f (laws_szPlan.f k) k aH JW).bind fun t124 => (if t124 < 0 then (some (-1)) else (some t124)))))))
set_option maxHeartbeats 8000000 in
theorem laws_szPlan.calls : ∀ (k : Nat) (aD : Int) (aI : ByteArray) (aJ : Int) (aM : Int) (aN : Int) (aQ : Int) (bF : ByteArray) (bE : ByteArray) (cO : Option Addr) (cK : Nat) (bA : List (S27)) (dA : Option Addr) (dB : Nat) (aZ : List (S27)) (aU : Int) (bM : Option Addr) (bK : Nat) (aH : List (S30)) (a1 : Int) (r : Int) (w : World) (iL : Kd.C k27 w cO bA.length bA) (iR : bA.length ≤ cK) (iP : Kd.C k27 w dA aZ.length aZ) (iI : aZ.length ≤ dB) (fQ : Kd.C k30 w bM aH.length aH) (fZ : aH.length ≤ bK) (h : laws_szPlan.f k aD aI aJ aM aN aQ bF bE bA aZ aU aH a1 = some r),
  Calls Tryz.prog 6 #[.agg #[.int .i64 aD, .string aI, .int .i64 aJ, .int .i64 aM, .int .i64 aN, .int .i64 aQ, .string bF, .string bE, .slice cO bA.length cK, .slice dA aZ.length dB, .int .i64 aU, .slice bM aH.length bK], .int .i64 a1] w fun e w' => e = .returned (.int .i64 r) ∧ Below w.heap.size w w' := by
 intro k
 induction k with
 | zero =>
  intro aD aI aJ aM aN aQ bF bE cO cK bA dA dB aZ aU bM bK aH a1 r w iL iR iP iI fQ fZ h; exact absurd h (by simp [laws_szPlan.f])
 | succ k ih_ =>
  intro aD aI aJ aM aN aQ bF bE cO cK bA dA dB aZ aU bM bK aH a1 r w iL iR iP iI fQ fZ h; have b3U := Tryz.underlying30; have aVZ := Tryz.underlying27; have dV := am_ iL; have dU := am_ iR; clear iL iR; have fC := am_ iP; have fG := am_ iI; clear iP iI; have dZ := am_ fQ; have eO := am_ fZ; clear fQ fZ; have HB := am_ (Below.refl w.heap.size w); (have H : (if (wrap64 (a1 - (aI.size : Int))) < 0 then (some (-1)) else ((laws_szExp.f k aJ aM aN aQ bF bE bA (wrap64 (a1 - (aI.size : Int)))).bind fun F8 => (if F8 < 0 then (some (-1)) else ((laws_szExpS.f (laws_szExp.f k) k aZ F8).bind fun JW => (if JW < 0 then (some (-1)) else ((laws_szPlanS.f (laws_szPlan.f k) k aH JW).bind fun t124 => (if t124 < 0 then (some (-1)) else (some t124)))))))) = some r := h); clear h
  by_cases c3 : (wrap64 (a1 - (aI.size : Int))) < 0
  ·rw [if_pos c3] at H
   have fB := decide_eq_true c3; clear c3; obtain rfl := Option.some.inj H
   go_enter Tryz.func6, Tryz.ntmps6
   go_wp2_with (first | ((with_reducible refine gate_dst (N := 2) rfl ?_); refine bx_ 2 #[.int .i64 aD, .string aI, .int .i64 aJ, .int .i64 aM, .int .i64 aN, .int .i64 aQ, .string bF, .string bE, .slice cO bA.length cK, .slice dA aZ.length dB, .int .i64 aU, .slice bM aH.length bK] 30 ?_; intro aIL hg w4 hbox hb; have gQ := am_ (hbox); have aH4 := gw_ hg; have aM3 := gw_ hg; replace HB := bs_ hb; clear hb hbox hg; obtain ⟨TI, U2, TY, aUB, aTI, aTY, aSP, aTR, aSW, aQY, aIX, aHT, TT, TV, U1, aU0, aTA, aSM, aS1, aW4, aS6, aR2, aJL, aN2⟩ := b12_ gQ))
   go_ret
   exact ⟨er_, bb_⟩
  ·rw [if_neg c3] at H
   have fB := decide_eq_false c3; clear c3; replace H := bsi_ H; obtain ⟨F8, A60, H⟩ := H
   try dsimp only at H
   have A6 := am_ A60; clear A60
   by_cases c7 : F8 < 0
   ·rw [if_pos c7] at H
    have gJ := decide_eq_true c7; clear c7; obtain rfl := Option.some.inj H
    go_enter Tryz.func6, Tryz.ntmps6
    go_wp2_with (first | ((with_reducible refine gate_dst (N := 2) rfl ?_); refine bx_ 2 #[.int .i64 aD, .string aI, .int .i64 aJ, .int .i64 aM, .int .i64 aN, .int .i64 aQ, .string bF, .string bE, .slice cO bA.length cK, .slice dA aZ.length dB, .int .i64 aU, .slice bM aH.length bK] 30 ?_; intro aIL hg w8 hbox hb; have gQ := am_ (hbox); have aH4 := gw_ hg; have aM3 := gw_ hg; replace HB := bs_ hb; clear hb hbox hg; obtain ⟨nW, nV, yM, TQ, U0, TU, TS, cUU, cU6, cUK, cIC, cPW, nR, oL, yL, TC, TE, U9, UA, cWB, cU8, cUP, cE6, cGW⟩ := b12_ gQ) | ((with_reducible refine gate_callee (f := 19) rfl ?_); refine gsL_ (some 15) Tryz.func19 #[.agg #[.int .i64 aJ, .int .i64 aM, .int .i64 aN, .int .i64 aQ, .string bF, .string bE, .slice cO bA.length cK], .int .i64 (wrap64 (a1 - (aI.size : Int)))] ?_; (with_reducible refine (laws_szExp.calls k aJ aM aN aQ bF bE _ _ bA (wrap64 (a1 - (aI.size : Int))) F8 _ ?aK ?aT A6.out).mono ?_); (case aK => exact ck_ (Kd.C_below dV.out HB.out)); (case aT => exact dU.out); rintro e w10 ⟨rfl, hb⟩; refine ⟨_, rfl, ?_⟩; replace gQ := bkb_ gQ hb; replace HB := bs_ hb; (try clear hb)))
    go_ret
    exact ⟨er_, bb_⟩
   ·rw [if_neg c7] at H
    have gJ := decide_eq_false c7; clear c7; replace H := bsi_ H; obtain ⟨JW, aFY, H⟩ := H
    try dsimp only at H
    have UC := am_ aFY; clear aFY
    by_cases c12 : JW < 0
    ·rw [if_pos c12] at H
     have yU := decide_eq_true c12; clear c12; obtain rfl := Option.some.inj H
     go_enter Tryz.func6, Tryz.ntmps6
     go_wp2_with (first | ((with_reducible refine gate_dst (N := 2) rfl ?_); refine bx_ 2 #[.int .i64 aD, .string aI, .int .i64 aJ, .int .i64 aM, .int .i64 aN, .int .i64 aQ, .string bF, .string bE, .slice cO bA.length cK, .slice dA aZ.length dB, .int .i64 aU, .slice bM aH.length bK] 30 ?_; intro aIL hg w13 hbox hb; have gQ := am_ (hbox); have aH4 := gw_ hg; have aM3 := gw_ hg; replace HB := bs_ hb; clear hb hbox hg; obtain ⟨nY, oK, sQ, zT, AJ, BG, zV, RJ, JZ, OB, EJ, F9, p9, nU, vJ, CR, CU, BC, AP, OX, K6, SC, E5, EO⟩ := b12_ gQ) | ((with_reducible refine gate_callee (f := 19) rfl ?_); refine gsL_ (some 15) Tryz.func19 #[.agg #[.int .i64 aJ, .int .i64 aM, .int .i64 aN, .int .i64 aQ, .string bF, .string bE, .slice cO bA.length cK], .int .i64 (wrap64 (a1 - (aI.size : Int)))] ?_; (with_reducible refine (laws_szExp.calls k aJ aM aN aQ bF bE _ _ bA (wrap64 (a1 - (aI.size : Int))) F8 _ ?aK ?aT A6.out).mono ?_); (case aK => exact ck_ (Kd.C_below dV.out HB.out)); (case aT => exact dU.out); rintro e w15 ⟨rfl, hb⟩; refine ⟨_, rfl, ?_⟩; replace gQ := bkb_ gQ hb; replace HB := bs_ hb; (try clear hb); obtain ⟨mO, mY, oV, qU, qQ, qR, qN, K7, QU, LK, FE, EY, mQ, mG, nX, qK, qG, qJ, qM, NH, PL, JP, ER, EK⟩ := b12_ gQ) | ((with_reducible refine gate_callee (f := 20) rfl ?_); refine gsL_ (some 21) Tryz.func20 #[.slice dA aZ.length dB, .int .i64 F8] ?_; (with_reducible refine (laws_szExpS.calls (laws_szExp.f k) (laws_szExp.calls k) k _ _ aZ F8 JW _ ?aK ?aT UC.out).mono ?_); (case aK => exact ck_ (Kd.C_below fC.out HB.out)); (case aT => exact fG.out); rintro e w17 ⟨rfl, hb⟩; refine ⟨_, rfl, ?_⟩; replace gQ := bkb_ gQ hb; replace HB := bs_ hb; (try clear hb)))
     go_ret
     exact ⟨er_, bb_⟩
    ·rw [if_neg c12] at H
     have yU := decide_eq_false c12; clear c12; replace H := bsi_ H; obtain ⟨t124, aRU, H⟩ := H
     try dsimp only at H
     have A18 := am_ aRU; clear aRU
     by_cases c19 : t124 < 0
     ·rw [if_pos c19] at H
      have UM := decide_eq_true c19; clear c19; obtain rfl := Option.some.inj H
      go_enter Tryz.func6, Tryz.ntmps6
      go_wp2_with (first | ((with_reducible refine gate_dst (N := 2) rfl ?_); refine bx_ 2 #[.int .i64 aD, .string aI, .int .i64 aJ, .int .i64 aM, .int .i64 aN, .int .i64 aQ, .string bF, .string bE, .slice cO bA.length cK, .slice dA aZ.length dB, .int .i64 aU, .slice bM aH.length bK] 30 ?_; intro aIL hg w20 hbox hb; have gQ := am_ (hbox); have aH4 := gw_ hg; have aM3 := gw_ hg; replace HB := bs_ hb; clear hb hbox hg; obtain ⟨xW, xY, IE, a2F, a7L, a6D, a8Y, aH3, aN8, aHD, aC4, aAV, wS, xV, IU, a8M, a88, a7J, a6L, aMY, aIK, aIG, aBK, aCU⟩ := b12_ gQ) | ((with_reducible refine gate_callee (f := 19) rfl ?_); refine gsL_ (some 15) Tryz.func19 #[.agg #[.int .i64 aJ, .int .i64 aM, .int .i64 aN, .int .i64 aQ, .string bF, .string bE, .slice cO bA.length cK], .int .i64 (wrap64 (a1 - (aI.size : Int)))] ?_; (with_reducible refine (laws_szExp.calls k aJ aM aN aQ bF bE _ _ bA (wrap64 (a1 - (aI.size : Int))) F8 _ ?aK ?aT A6.out).mono ?_); (case aK => exact ck_ (Kd.C_below dV.out HB.out)); (case aT => exact dU.out); rintro e w22 ⟨rfl, hb⟩; refine ⟨_, rfl, ?_⟩; replace gQ := bkb_ gQ hb; replace HB := bs_ hb; (try clear hb); obtain ⟨lC, kV, kX, oZ, pK, pF, oI, Q9, SS, MR, EN, EW, l7, kZ, kW, oU, o9, o7, pI, QG, RB, PS, ES, FQ⟩ := b12_ gQ) | ((with_reducible refine gate_callee (f := 20) rfl ?_); refine gsL_ (some 21) Tryz.func20 #[.slice dA aZ.length dB, .int .i64 F8] ?_; (with_reducible refine (laws_szExpS.calls (laws_szExp.f k) (laws_szExp.calls k) k _ _ aZ F8 JW _ ?aK ?aT UC.out).mono ?_); (case aK => exact ck_ (Kd.C_below fC.out HB.out)); (case aT => exact fG.out); rintro e w24 ⟨rfl, hb⟩; refine ⟨_, rfl, ?_⟩; replace gQ := bkb_ gQ hb; replace HB := bs_ hb; (try clear hb); obtain ⟨mU, mX, pQ, wP, y9, xM, xI, aML, aGV, aM6, aCC, aAL, mP, mR, oJ, yC, yD, xP, xS, aKO, aJ1, aNL, aCG, aAE⟩ := b12_ gQ) | ((with_reducible refine gate_callee (f := 21) rfl ?_); refine gsL_ (some 27) Tryz.func21 #[.slice bM aH.length bK, .int .i64 JW] ?_; (with_reducible refine (laws_szPlanS.calls (laws_szPlan.f k) ih_ k _ _ aH JW t124 _ ?aK ?aT A18.out).mono ?_); (case aK => exact ck_ (Kd.C_below dZ.out HB.out)); (case aT => exact eO.out); rintro e w26 ⟨rfl, hb⟩; refine ⟨_, rfl, ?_⟩; replace gQ := bkb_ gQ hb; replace HB := bs_ hb; (try clear hb)))
      go_ret
      exact ⟨er_, bb_⟩
     ·rw [if_neg c19] at H
      have UM := decide_eq_false c19; clear c19; obtain rfl := Option.some.inj H
      go_enter Tryz.func6, Tryz.ntmps6
      go_wp2_with (first | ((with_reducible refine gate_dst (N := 2) rfl ?_); refine bx_ 2 #[.int .i64 aD, .string aI, .int .i64 aJ, .int .i64 aM, .int .i64 aN, .int .i64 aQ, .string bF, .string bE, .slice cO bA.length cK, .slice dA aZ.length dB, .int .i64 aU, .slice bM aH.length bK] 30 ?_; intro aIL hg w27 hbox hb; have gQ := am_ (hbox); have aH4 := gw_ hg; have aM3 := gw_ hg; replace HB := bs_ hb; clear hb hbox hg; obtain ⟨I4, GN, H8, G9, GV, GZ, IZ, a96, a1A, a9A, XV, YW, I5, HY, GA, IW, H5, GM, IR, a8B, a4Y, a9N, XX, YJ⟩ := b12_ gQ) | ((with_reducible refine gate_callee (f := 19) rfl ?_); refine gsL_ (some 15) Tryz.func19 #[.agg #[.int .i64 aJ, .int .i64 aM, .int .i64 aN, .int .i64 aQ, .string bF, .string bE, .slice cO bA.length cK], .int .i64 (wrap64 (a1 - (aI.size : Int)))] ?_; (with_reducible refine (laws_szExp.calls k aJ aM aN aQ bF bE _ _ bA (wrap64 (a1 - (aI.size : Int))) F8 _ ?aK ?aT A6.out).mono ?_); (case aK => exact ck_ (Kd.C_below dV.out HB.out)); (case aT => exact dU.out); rintro e w29 ⟨rfl, hb⟩; refine ⟨_, rfl, ?_⟩; replace gQ := bkb_ gQ hb; replace HB := bs_ hb; (try clear hb); obtain ⟨a4Q, a8X, a3Y, a5X, a7W, a6G, a4R, a3G, a5M, a7T, WX, X6, a7H, a4J, a6S, a5E, a4E, a3X, a9H, a1E, a7Y, a7Z, Z0, XL⟩ := b12_ gQ) | ((with_reducible refine gate_callee (f := 20) rfl ?_); refine gsL_ (some 21) Tryz.func20 #[.slice dA aZ.length dB, .int .i64 F8] ?_; (with_reducible refine (laws_szExpS.calls (laws_szExp.f k) (laws_szExp.calls k) k _ _ aZ F8 JW _ ?aK ?aT UC.out).mono ?_); (case aK => exact ck_ (Kd.C_below fC.out HB.out)); (case aT => exact fG.out); rintro e w31 ⟨rfl, hb⟩; refine ⟨_, rfl, ?_⟩; replace gQ := bkb_ gQ hb; replace HB := bs_ hb; (try clear hb); obtain ⟨AR, AC, CV, CP, CX, BU, zS, WL, VE, VT, MV, NS, BJ, BM, AX, CE, BA, BV, BL, VX, VD, VH, ME, SI⟩ := b12_ gQ) | ((with_reducible refine gate_callee (f := 21) rfl ?_); refine gsL_ (some 27) Tryz.func21 #[.slice bM aH.length bK, .int .i64 JW] ?_; (with_reducible refine (laws_szPlanS.calls (laws_szPlan.f k) ih_ k _ _ aH JW t124 _ ?aK ?aT A18.out).mono ?_); (case aK => exact ck_ (Kd.C_below dZ.out HB.out)); (case aT => exact eO.out); rintro e w33 ⟨rfl, hb⟩; refine ⟨_, rfl, ?_⟩; replace gQ := bkb_ gQ hb; replace HB := bs_ hb; (try clear hb)))
      go_ret
      exact ⟨er_, bb_⟩

/-! ### spec_l04Rel: function 33 -/
def spec_l04Rel.l0 : Nat → List (S68) → ByteArray → Int → Option (Int × (List (S126)) × Bool)
 | 0, _, _, _ => none
 | k + 1, x0, x1, x6 => if x6 < (x0.length : Int) then (if 0 ≤ x6 then (if ((dG x0 x6).f0).toList = x1.toList then (some ((dG x0 x6).f1.f0, (dG x0 x6).f1.f1, true)) else (spec_l04Rel.l0 k x0 x1 (wrap64 (x6 + 1)))) else (none)) else (some (0, ([] : List (S126)), false))
def spec_l04Rel.f (k : Nat) (l0 : List (S68)) (a1 : ByteArray) : Option (Int × (List (S126)) × Bool) := spec_l04Rel.l0 k l0 a1 0
theorem bK9 {B : Nat} {w W : World} (h : Below B w W := by repeat (first | (with_reducible first | exact HB.out | apply below_alloc | apply pw_below_drewN | apply below_drew1 | refine below_set ?_ c2P.out) | exact HB.out)) : Below B w W := h
set_option maxHeartbeats 8000000 in
theorem spec_l04Rel.calls (k : Nat) (P0_ : Nat → Prop) (A0 : Option Addr) (c0 : Nat) (l0 : List (S68)) (a1 : ByteArray) (r1 : Int) (r2 : List (S126)) (r3 : Bool) (w : World) (hs0 : Kd.V FU 68 w w.heap.size (fun k_ => P0_ k_) (.slice A0 l0.length c0) l0) (h : spec_l04Rel.f k l0 a1 = some (r1, r2, r3)) :
  Calls Tryz.prog 33 #[.slice A0 l0.length c0, .string a1] w fun e w' => ∃ v1_ : Value, e = .returned (.tuple #[.agg #[.int .i64 r1, v1_], .bool r3]) ∧ Kd.V jF 126 w' w.heap.size (fun k_ => (P0_ k_ ∨ w.heap.size ≤ k_)) v1_ r2 ∧ Below w.heap.size w w' := by
 have aPM := Tryz.underlying66
 have HO0 := am_ (show Kd.V FU 68 w w.heap.size (fun k_ => (P0_ k_ ∨ w.heap.size ≤ k_)) (.slice A0 l0.length c0) l0 from Kd.V_mono hs0 (fun k_ hk => .inl hk))
 have HB := am_ (Below.refl w.heap.size w)
 have H : (spec_l04Rel.l0 k l0 a1 0) = some (r1, r2, r3) := h
 clear h
 have H' := am_ H
 clear H
 go_enter Tryz.func33, Tryz.ntmps33
 go_wp2_with (first | ((with_reducible refine gate_dst (N := 4) rfl ?_); refine bx_ 4 #[.int .i64 0, .slice none 0 0] 66 ?_; intro UB hg w3 hbox hb; have a09 := am_ (hbox); have cYR := gw_ hg; have c2P := gw_ hg; replace HO0 := am_ (Kd.V_below (Kd.V_elderB (v3_ HO0.out) UB (Nat.le_of_eq hg.symm)) hb); replace HB := bs_ hb; clear hb hbox hg))
 go_loopg [6] k (fun kq v6 w' => ∃ (nM : Int) (TL : Int), v6 = .int .i64 nM ∧ Aside0 (spec_l04Rel.l0 kq l0 a1 nM = some (r1, r2, r3)) ∧ Aside0 (kq ≤ k) ∧ Aside0 (Kd.V FU 68 w' w.heap.size (fun k_ => (P0_ k_ ∨ w.heap.size ≤ k_) ∧ k_ ≠ UB) (.slice A0 l0.length c0) l0) ∧ Aside0 (w'.heap[UB]? = some (.cells #[.int .i64 TL, (.slice none 0 0)] 66 (0, 0))) ∧ Aside0 (Below w.heap.size w w'))
 case atStart => exact ⟨(0), (0), rs_, H', ⟨Nat.le_refl _⟩, ⟨by (with_reducible repeat (first | apply Kd.V_alloc | apply Kd.V_drewN | apply Kd.V_drew)); exact HO0.out⟩, ⟨bkx_ a09.out⟩, ⟨bb_⟩⟩
 case round =>
  clear H'; (try clear p2); (try clear c3); obtain ⟨nM, TL, rfl, HA, kY, a0D, a09, HB⟩ := hrel
  cases gk with
  | zero => exact absurd HA.out (by simp [spec_l04Rel.l0])
  | succ k1 =>
   have H := HA.out; clear HA; simp only [spec_l04Rel.l0] at H
   by_cases c4 : nM < (l0.length : Int)
   ·rw [if_pos c4] at H
    have gB := decide_eq_true c4; clear c4
    by_cases c5 : 0 ≤ nM
    ·rw [if_pos c5] at H
     have pV := decide_eq_true c5; clear c5
     by_cases c6 : ((dG l0 nM).f0).toList = a1.toList
     ·rw [if_pos c6] at H
      have kN : (((dG l0 nM).f0).toList == a1.toList) = true := beq_iff_eq.mpr c6; have aFV : (((dG l0 nM).f0).toList != a1.toList) = false := bne_eq_false_iff_eq.mpr c6; clear c6; simp only [Option.some.injEq, Prod.mk.injEq] at H; obtain ⟨rfl, rfl, rfl⟩ := H; (have a3M : 0 ≤ (nM : Int) := oa_); (have a5R : nM < (l0.length : Int) := oa_); obtain ⟨b87, aFC, aD5, e126, b2B, b2K, VR, NA, M7⟩ := DW (Kd.V_reads' a0D.out).2.2 nM a3M a5R; cases e126; (obtain ⟨bRZ, aDS, aE9, XP⟩ := Kd.V_get a0D.out z68 nM a3M (by first | exact a5R | exact oa_ | (have e_ := (Kd.V_reads' a0D.out).1; omega))); obtain ⟨b56, b0R, rfl, AU, BR⟩ := I7 aE9; have u7 := XP 2 _ rfl; rw [add_field _ _ 2 (by omega)] at u7; replace u7 := Option.some.inj (u7.symm.trans VR); injection u7 with ZV aE7 X0; rw [ZV] at BR; rw [X0] at AU; have b0P := am_ (show Kd.V jF 126 _ w.heap.size _ _ ((dG l0 nM).f1.f1) from Kd.V_mk AU BR); clear ZV aE7 X0 BR AU; clear XP aDS; have aXV := am_ M7; have b22 := am_ NA; clear M7 NA; replace a3M := eq_true a3M; replace a5R := eq_true a5R; (have aYC : 0 ≤ (nM : Int) := oa_); (have b1W : nM < (l0.length : Int) := oa_); obtain ⟨bV2, cWD, cU9, e127, cGB, cMU, aHP, aLM, aM9⟩ := DW (Kd.V_reads' a0D.out).2.2 nM aYC b1W; obtain rfl : b87 = bV2 := (by injection e127); (obtain ⟨cZ3, bF4, b9O, aU8⟩ := Kd.V_get a0D.out z68 nM aYC (by first | exact b1W | exact oa_ | (have e_ := (Kd.V_reads' a0D.out).1; omega))); obtain ⟨cKD, cI1, rfl, a4I, a81⟩ := I7 b9O; have VN := aU8 2 _ rfl; rw [add_field _ _ 2 (by omega)] at VN; replace VN := Option.some.inj (VN.symm.trans aHP); injection VN with ZV aE7 X0; rw [ZV] at a81; rw [X0] at a4I; have aYM := am_ (show Kd.V jF 126 _ w.heap.size _ _ ((dG l0 nM).f1.f1) from Kd.V_mk a4I a81); clear ZV aE7 X0 a81 a4I; clear aU8 bF4; have cGG := am_ aM9; have cGT := am_ aLM; clear aM9 aLM; replace aYC := eq_true aYC; replace b1W := eq_true b1W; have DD := Option.some.inj (VR.symm.trans aHP); injection DD with DD en_ ec_; subst DD; subst ec_; clear en_; obtain ⟨ET, F6, FP, F5⟩ := b2_ a09
      go_wp2
      refine bodyPost_ret (results_ct rfl _ _ UB 66 #[.int .i64 ((dG l0 nM).f1.f0), .slice aFC ((dG l0 nM).f1.f1).length aD5] (0, 0) _ rfl (bp2_ (bkx_ a09.out)) Tryz.underlying66 rfl (by kernel_rfl)) rfl ?_; (exact ⟨_, rr_, by (with_reducible repeat (first | apply Kd.V_alloc | apply Kd.V_drewN | apply Kd.V_drew)); exact Kd.V_mono (Kd.V_far (p := ⟨UB, 1, none⟩) (Kd.V_far (p := ⟨UB, 0, none⟩) (Kd.V_mono aYM.out (fun k_ hk => (⟨hk, hk.2⟩ : _ ∧ k_ ≠ UB))) (fun _ hk => hk.2) (.int .i64 ((dG l0 nM).f1.f0))) (fun _ hk => hk.2) (.slice aFC ((dG l0 nM).f1.f1).length aD5)) (fun _ hk => hk.1.1), bK9⟩)
     ·rw [if_neg c6] at H
      have kN : (((dG l0 nM).f0).toList == a1.toList) = false := beq_eq_false_iff_ne.mpr c6; have aFV : (((dG l0 nM).f0).toList != a1.toList) = true := bne_iff_ne.mpr c6; have H' := am_ H; clear H; (have a3M : 0 ≤ (nM : Int) := oa_); (have a5R : nM < (l0.length : Int) := oa_); obtain ⟨b87, aFC, aD5, e126, b2B, b2K, VR, NA, M7⟩ := DW (Kd.V_reads' a0D.out).2.2 nM a3M a5R; cases e126; (obtain ⟨bRZ, aDS, aE9, XP⟩ := Kd.V_get a0D.out z68 nM a3M (by first | exact a5R | exact oa_ | (have e_ := (Kd.V_reads' a0D.out).1; omega))); obtain ⟨b56, b0R, rfl, AU, BR⟩ := I7 aE9; have u7 := XP 2 _ rfl; rw [add_field _ _ 2 (by omega)] at u7; replace u7 := Option.some.inj (u7.symm.trans VR); injection u7 with ZV aE7 X0; rw [ZV] at BR; rw [X0] at AU; have b0P := am_ (show Kd.V jF 126 _ w.heap.size _ _ ((dG l0 nM).f1.f1) from Kd.V_mk AU BR); clear ZV aE7 X0 BR AU; clear XP aDS; have aXV := am_ M7; have b22 := am_ NA; clear M7 NA; replace a3M := eq_true a3M; replace a5R := eq_true a5R
      go_wp2
      go_roundg k1
      case measure => have := kY.out; omega
      case rel => exact ⟨(wrap64 (nM + 1)), (TL), rs_, H', ⟨by have := kY.out; omega⟩, ⟨by (with_reducible repeat (first | apply Kd.V_alloc | apply Kd.V_drewN | apply Kd.V_drew)); exact a0D.out⟩, ⟨bkx_ a09.out⟩, ⟨bb_⟩⟩
    ·rw [if_neg c5] at H
     exact nn_ H
   ·rw [if_neg c4] at H
    have gB := decide_eq_false c4; clear c4; simp only [Option.some.injEq, Prod.mk.injEq] at H; obtain ⟨rfl, rfl, rfl⟩ := H; obtain ⟨nH, nD, nC, nG⟩ := b2_ a09
    go_wp2
    refine bodyPost_ret (results_ct rfl _ _ UB 66 #[.int .i64 0, .slice none 0 0] (0, 0) _ rfl (bp2_ (bkx_ a09.out)) Tryz.underlying66 rfl (by kernel_rfl)) rfl ?_; (exact ⟨_, rr_, Kd.V_nil _ _ _ _ _, bK9⟩)

/-! ### spec_l04None: function 67 -/
def spec_l04None.f (aD : Int) (aI : Int) (aJ : Int) (aM : Int) (aN : ByteArray) (aQ : ByteArray) (aV : List (S39)) : Option (Bool) := if aD = 0 then (if aI = 0 then (if (aJ == 0 && (aM == 0 && (aN.toList == ([] : List UInt8)))) = true then (if aQ.toList = ([] : List UInt8) then (some ((aV.length : Int) == 0)) else (some false)) else (some false)) else (some false)) else (some false)
set_option maxHeartbeats 8000000 in
theorem spec_l04None.calls (aD : Int) (aI : Int) (aJ : Int) (aM : Int) (aN : ByteArray) (aQ : ByteArray) (dL : Option Addr) (dJ : Nat) (aV : List (S39)) (r : Bool) (w : World) (eX : Kd.C gL w dL aV.length aV) (eU : aV.length ≤ dJ) (h : spec_l04None.f aD aI aJ aM aN aQ aV = some r) :
  Calls Tryz.prog 67 #[.agg #[.int .i64 aD, .int .i64 aI, .int .i64 aJ, .int .i64 aM, .string aN, .string aQ, .slice dL aV.length dJ]] w fun e w' => e = .returned (.bool r) ∧ Below w.heap.size w w' := by
 have vN := Tryz.underlying39
 have XJ := Tryz.underlying36
 have gD := am_ eX
 have gW := am_ eU
 clear eX eU
 have HB := am_ (Below.refl w.heap.size w)
 have H : (if aD = 0 then (if aI = 0 then (if (aJ == 0 && (aM == 0 && (aN.toList == ([] : List UInt8)))) = true then (if aQ.toList = ([] : List UInt8) then (some ((aV.length : Int) == 0)) else (some false)) else (some false)) else (some false)) else (some false)) = some r := h
 clear h
 by_cases c2 : aD = 0
 ·rw [if_pos c2] at H
  have JI : (aD == 0) = true := beq_iff_eq.mpr c2; have JD : (aD != 0) = false := bne_eq_false_iff_eq.mpr c2; clear c2
  by_cases c3 : aI = 0
  ·rw [if_pos c3] at H
   have fB : (aI == 0) = true := beq_iff_eq.mpr c3; have jG : (aI != 0) = false := bne_eq_false_iff_eq.mpr c3; clear c3
   by_cases c4 : (aJ == 0 && (aM == 0 && (aN.toList == ([] : List UInt8)))) = true
   ·rw [if_pos c4] at H
    have gB : (aJ == 0 && (aM == 0 && (aN.toList == ([] : List UInt8)))) = true := c4; (try (have cXG : (aJ == 0 && (aM == 0 && (aN.toList.isEmpty))) = true := by simpa using gB)); (try (have a0F : decide (aJ = 0 && (aM == 0 && (aN.toList == ([] : List UInt8)))) = true := by simpa using c4)); (try (have cX8 : (aJ == 0 && (aM == 0 && (aN.toList == ([] : List UInt8)))) = true := by simpa using c4)); clear c4
    by_cases c5 : aQ.toList = ([] : List UInt8)
    ·rw [if_pos c5] at H
     have pV : (aQ.toList == ([] : List UInt8)) = true := beq_iff_eq.mpr c5; have TB : (aQ.toList != ([] : List UInt8)) = false := bne_eq_false_iff_eq.mpr c5; clear c5; obtain rfl := Option.some.inj H
     go_enter Tryz.func67, Tryz.ntmps67
     go_wp2_with (first | ((with_reducible refine gate_dst (N := 1) rfl ?_); (try (refine gate_guard (by rfl) ?_; dsimp only)); refine bx_ 1 #[.int .i64 aD, .int .i64 aI, .int .i64 aJ, .int .i64 aM, .string aN, .string aQ, .slice dL aV.length dJ] 39 ?_; intro aL8 hg w6 hbox hb; have PI := am_ (hbox); have aIB := gw_ hg; have aN5 := gw_ hg; replace HB := bs_ hb; clear hb hbox hg; obtain ⟨ET, F6, JB, aDG, aE8, aD3, aFT, FP, F5, J9, aDR, aFB, aEH, aF6⟩ := b7_ PI))
     go_ret
     exact ⟨er_, bb_⟩
    ·rw [if_neg c5] at H
     have pV : (aQ.toList == ([] : List UInt8)) = false := beq_eq_false_iff_ne.mpr c5; have TB : (aQ.toList != ([] : List UInt8)) = true := bne_iff_ne.mpr c5; obtain rfl := Option.some.inj H
     go_enter Tryz.func67, Tryz.ntmps67
     go_wp2_with (first | ((with_reducible refine gate_dst (N := 1) rfl ?_); (try (refine gate_guard (by rfl) ?_; dsimp only)); refine bx_ 1 #[.int .i64 aD, .int .i64 aI, .int .i64 aJ, .int .i64 aM, .string aN, .string aQ, .slice dL aV.length dJ] 39 ?_; intro aL8 hg w8 hbox hb; have PI := am_ (hbox); have aIB := gw_ hg; have aN5 := gw_ hg; replace HB := bs_ hb; clear hb hbox hg; obtain ⟨nW, nV, yM, TQ, U0, TU, TS, nR, oL, yL, TC, TE, U9, UA⟩ := b7_ PI))
     go_ret
     exact ⟨er_, bb_⟩
   ·rw [if_neg c4] at H
    (have gB : (aJ == 0 && (aM == 0 && (aN.toList == ([] : List UInt8)))) = false := by simpa using c4); (try (have cXG : (aJ == 0 && (aM == 0 && (aN.toList.isEmpty))) = false := by simpa using gB)); (try (have a0F : decide (aJ = 0 && (aM == 0 && (aN.toList == ([] : List UInt8)))) = false := by simpa using c4)); (try (have cX8 : (aJ == 0 && (aM == 0 && (aN.toList == ([] : List UInt8)))) = false := by simpa using c4)); (try (have d3C : ¬ (aJ = 0 && (aM == 0 && (aN.toList == ([] : List UInt8)))) := by simpa using c4)); clear c4; obtain rfl := Option.some.inj H
    go_enter Tryz.func67, Tryz.ntmps67
    go_wp2_with (first | ((with_reducible refine gate_dst (N := 1) rfl ?_); (try (refine gate_guard (by rfl) ?_; dsimp only)); refine bx_ 1 #[.int .i64 aD, .int .i64 aI, .int .i64 aJ, .int .i64 aM, .string aN, .string aQ, .slice dL aV.length dJ] 39 ?_; intro aL8 hg w10 hbox hb; have PI := am_ (hbox); have aIB := gw_ hg; have aN5 := gw_ hg; replace HB := bs_ hb; clear hb hbox hg; obtain ⟨O3, RH, M0, O6, NM, MP, QL, OL, OO, NG, QH, PD, RY, RI⟩ := b7_ PI))
    go_ret
    exact ⟨er_, bb_⟩
  ·rw [if_neg c3] at H
   have fB : (aI == 0) = false := beq_eq_false_iff_ne.mpr c3; have jG : (aI != 0) = true := bne_iff_ne.mpr c3; obtain rfl := Option.some.inj H
   go_enter Tryz.func67, Tryz.ntmps67
   go_wp2_with (first | ((with_reducible refine gate_dst (N := 1) rfl ?_); (try (refine gate_guard (by rfl) ?_; dsimp only)); refine bx_ 1 #[.int .i64 aD, .int .i64 aI, .int .i64 aJ, .int .i64 aM, .string aN, .string aQ, .slice dL aV.length dJ] 39 ?_; intro aL8 hg w12 hbox hb; have PI := am_ (hbox); have aIB := gw_ hg; have aN5 := gw_ hg; replace HB := bs_ hb; clear hb hbox hg; obtain ⟨OY, QD, aMR, aNB, aNN, aIQ, aMT, OP, M5, aJU, aJG, aM4, aNK, aMQ⟩ := b7_ PI))
   go_ret
   exact ⟨er_, bb_⟩
 ·rw [if_neg c2] at H
  have JI : (aD == 0) = false := beq_eq_false_iff_ne.mpr c2; have JD : (aD != 0) = true := bne_iff_ne.mpr c2; obtain rfl := Option.some.inj H
  go_enter Tryz.func67, Tryz.ntmps67
  go_wp2_with (first | ((with_reducible refine gate_dst (N := 1) rfl ?_); (try (refine gate_guard (by rfl) ?_; dsimp only)); refine bx_ 1 #[.int .i64 aD, .int .i64 aI, .int .i64 aJ, .int .i64 aM, .string aN, .string aQ, .slice dL aV.length dJ] 39 ?_; intro aL8 hg w14 hbox hb; have PI := am_ (hbox); have aIB := gw_ hg; have aN5 := gw_ hg; replace HB := bs_ hb; clear hb hbox hg; obtain ⟨mV, mI, oP, CG, BI, BX, zR, mK, mW, oQ, CW, C8, BS, BZ⟩ := b7_ PI))
  go_ret
  exact ⟨er_, bb_⟩

/-! ### spec_l01In: function 50 -/
def spec_l01In.f (a0 : Int) (a1 : Int) (a2 : Int) : Option (Bool) := if a0 ≥ a1 then (some (decide (a0 ≤ a2))) else (some false)
set_option maxHeartbeats 8000000 in
theorem spec_l01In.calls (a0 : Int) (a1 : Int) (a2 : Int) (r : Bool) (w : World) (h : spec_l01In.f a0 a1 a2 = some r) :
  Calls Tryz.prog 50 #[.int .i64 a0, .int .i64 a1, .int .i64 a2] w fun e w' => e = .returned (.bool r) ∧ Drawn0 w w' := by
 have H : (if a0 ≥ a1 then (some (decide (a0 ≤ a2))) else (some false)) = some r := h
 clear h
 by_cases c4 : a0 ≥ a1
 ·rw [if_pos c4] at H
  have gB := decide_eq_true c4; clear c4; obtain rfl := Option.some.inj H
  go_enter Tryz.func50, Tryz.ntmps50
  go_wp2
  go_ret
  (exact ⟨by first | rfl | (simp; done) | (simp [*]; done), by repeat (first | exact Drawn0.refl _ | apply Drawn0.step)⟩)
 ·rw [if_neg c4] at H
  have gB := decide_eq_false c4; clear c4; obtain rfl := Option.some.inj H
  go_enter Tryz.func50, Tryz.ntmps50
  go_wp2
  go_ret
  (exact ⟨by first | rfl | (simp; done) | (simp [*]; done), by repeat (first | exact Drawn0.refl _ | apply Drawn0.step)⟩)

/-! ### spec_l04Kids: function 68 -/
def spec_l04Kids.f (a0 : Int) : Option (Int) := (spec_l01In.f a0 0 6).bind fun aSZ => (if aSZ = true then ((some (([0, 1, 1, 2, 2, 1, 1] : List Int) : List Int)).bind fun a0E => (if 0 ≤ a0 then (if a0 < (a0E.length : Int) then (some (rd a0E a0)) else (none)) else (none))) else (some (-1)))
set_option maxHeartbeats 8000000 in
theorem spec_l04Kids.calls (a0 : Int) (r : Int) (w : World) (h : spec_l04Kids.f a0 = some r) :
  Calls Tryz.prog 68 #[.int .i64 a0] w fun e w' => e = .returned (.int .i64 r) ∧ Below w.heap.size w w' := by
 have HB := am_ (Below.refl w.heap.size w)
 have H : ((spec_l01In.f a0 0 6).bind fun aSZ => (if aSZ = true then ((some (([0, 1, 1, 2, 2, 1, 1] : List Int) : List Int)).bind fun a0E => (if 0 ≤ a0 then (if a0 < (a0E.length : Int) then (some (rd a0E a0)) else (none)) else (none))) else (some (-1)))) = some r := h
 clear h
 replace H := bsi_ H
 obtain ⟨aSZ, DV, H⟩ := H
 try dsimp only at H
 have A2 := am_ DV
 clear DV
 by_cases c3 : aSZ = true
 ·subst c3
  rw [if_pos rfl] at H; obtain ⟨a0E, aCK⟩ : ∃ y_ : List Int, y_ = (([0, 1, 1, 2, 2, 1, 1] : List Int)) := ⟨_, rfl⟩; (replace H : (if 0 ≤ a0 then (if a0 < (a0E.length : Int) then (some (rd a0E a0)) else (none)) else (none)) = some r := by first | (rw [aCK]; with_reducible exact H) | (have gK := (Option.bind_some _ _).symm.trans H; rw [aCK]; with_reducible exact gK) | (have gK := (Option.bind_some _ _).symm.trans H; with_reducible exact gK) | with_reducible exact H | (rw [aCK]; exact H) | exact H); have b7F := am_ aCK; clear aCK
  by_cases c4 : 0 ≤ a0
  ·rw [if_pos c4] at H
   have gB := decide_eq_true c4; clear c4
   by_cases c5 : a0 < (a0E.length : Int)
   ·rw [if_pos c5] at H
    have pV := decide_eq_true c5; clear c5; obtain rfl := Option.some.inj H
    go_enter Tryz.func68, Tryz.ntmps68
    go_wp2_with (first | ((with_reducible refine gate_callee (f := 50) rfl ?_); refine gsL_ (some 4) Tryz.func50 #[.int .i64 a0, .int .i64 0, .int .i64 6] ?_; (with_reducible refine (spec_l01In.calls a0 0 6 true _ A2.out).mono ?_); rintro e w' ⟨rfl, ⟨nd, rfl⟩⟩; refine ⟨_, rfl, ?_⟩) | ((with_reducible refine gate_dst (N := 6) rfl ?_); refine Kd.R_lit (Kd.int .i64) _ 3 ?hg (N := 6) ?hd (xs := ([0, 1, 1, 2, 2, 1, 1] : List Int)) (inner := [.int .i64 0, .int .i64 1, .int .i64 1, .int .i64 2, .int .i64 2, .int .i64 1, .int .i64 1]) (ok := fun _ => True) (okp := fun _ => True) ?hr ?hp (fun _ hk => hk) trivial (Below.refl _ _) (Nat.le_refl _) (by simp) ?_; (case hd => rfl); (case hg => rfl); (case hr => first | (go_simp; done) | (go_simp; rfl)); (case hp => exact (Reps.one (show Kd.M (Kd.int .i64) _ _ _ 0 [.int .i64 0] from rfl) (Reps.one (show Kd.M (Kd.int .i64) _ _ _ 1 [.int .i64 1] from rfl) (Reps.one (show Kd.M (Kd.int .i64) _ _ _ 1 [.int .i64 1] from rfl) (Reps.one (show Kd.M (Kd.int .i64) _ _ _ 2 [.int .i64 2] from rfl) (Reps.one (show Kd.M (Kd.int .i64) _ _ _ 2 [.int .i64 2] from rfl) (Reps.one (show Kd.M (Kd.int .i64) _ _ _ 1 [.int .i64 1] from rfl) (Reps.one (show Kd.M (Kd.int .i64) _ _ _ 1 [.int .i64 1] from rfl) (Reps.none _ _))))))))); intro v131 w6 ho7 hb AV fV; clear AV fV; (first | rw [← b7F.out] at ho7 | (simp only [Int.reduceToNat] at ho7; rw [← b7F.out] at ho7)); have b6Q := am_ (Kd.R_lower ho7 (below_size bb_)); replace HB := bs_ hb; clear hb ho7; obtain ⟨Ao8, co8, eo8⟩ := Kd.R_slice b6Q.out; subst eo8; have bC1 : 0 ≤ (a0 : Int) := oa_; have bDD : a0 < (a0E.length : Int) := oa_; obtain ⟨d1U, cVF, cF3⟩ := Kd.at_int (Kd.R_reads' b6Q.out).2.2 a0 bC1 bDD; cases cVF; replace bC1 := eq_true bC1; replace bDD := eq_true bDD))
    go_ret
    exact ⟨er_, bb_⟩
   ·rw [if_neg c5] at H
    exact nn_ H
  ·rw [if_neg c4] at H
   exact nn_ H
 ·replace c3 := Bool.eq_false_iff.mpr c3
  subst c3; (rw [if_neg (show ¬ (false = true) by decide)] at H); obtain rfl := Option.some.inj H
  go_enter Tryz.func68, Tryz.ntmps68
  go_wp2_with (first | ((with_reducible refine gate_callee (f := 50) rfl ?_); refine gsL_ (some 4) Tryz.func50 #[.int .i64 a0, .int .i64 0, .int .i64 6] ?_; (with_reducible refine (spec_l01In.calls a0 0 6 false _ A2.out).mono ?_); rintro e w' ⟨rfl, ⟨nd, rfl⟩⟩; refine ⟨_, rfl, ?_⟩))
  go_ret
  exact ⟨er_, bb_⟩

end Go.Proofs.YtnobhkmpkichdaaGreat.PFnExactWidth
