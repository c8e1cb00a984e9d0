-- WRITTEN BY xprint.py, a program of this session over the kit's printer: by nobody's hand
-- PRESSED4 -- PRESSED TWICE3 -- PRESSED TWICE
import Derived.Test.YtnobhkmpkichdaaGreatPress
import Derived.Test.YtnobhkmpkichdaaGreatPress3
import Derived.Test.YtnobhkmpkichdaaGreatPFnExactWidthx0
import Derived.Test.YtnobhkmpkichdaaGreatPFnExactWidthx6
import Derived.Test.YtnobhkmpkichdaaGreatPFnExactWidthx7
namespace Go.Proofs.YtnobhkmpkichdaaGreat.PFnExactWidth
set_option maxRecDepth 100000
open Go.RowKit Go.Proofs.YtnobhkmpkichdaaGreatW.PrintWords Go.Proofs.YtnobhkmpkichdaaGreatW.PrintLast Go.Proofs.YtnobhkmpkichdaaGreatW.PrintMore
attribute [local go_sem] max2_int min2_int max_two min_two max_three min_three max_four min_four
set_option linter.unusedVariables false
set_option linter.unusedSimpArgs false

/-! ### spec_ExpOk: function 70 -/
def spec_ExpOk.f (k : Nat) (aD : Int) (aI : Int) (aJ : Int) (aM : Int) (aN : ByteArray) (aQ : ByteArray) (aV : List (S39)) : Option (Bool) := (spec_l03Right.f k aD aI aJ aM aN aQ aV 12).bind fun aRT => (some aRT)
set_option maxHeartbeats 8000000 in
theorem spec_ExpOk.calls (k : Nat) (aD : Int) (aI : Int) (aJ : Int) (aM : Int) (aN : ByteArray) (aQ : ByteArray) (dL : Option Addr) (dJ : Nat) (aV : List (S39)) (r : Bool) (w : World) (eX : Kd.C gL w dL aV.length aV) (eU : aV.length ≤ dJ) (h : spec_ExpOk.f k aD aI aJ aM aN aQ aV = some r) :
  Calls Tryz.prog 70 #[.agg #[.int .i64 aD, .int .i64 aI, .int .i64 aJ, .int .i64 aM, .string aN, .string aQ, .slice dL aV.length dJ]] w fun e w' => e = .returned (.bool r) ∧ Below w.heap.size w w' := by
 have vN := Tryz.underlying39
 have gD := am_ eX
 have gW := am_ eU
 clear eX eU
 have HB := am_ (Below.refl w.heap.size w)
 have H : ((spec_l03Right.f k aD aI aJ aM aN aQ aV 12).bind fun aRT => (some aRT)) = some r := h
 clear h
 replace H := bsi_ H
 obtain ⟨aRT, DV, H⟩ := H
 try dsimp only at H
 have A2 := am_ DV
 clear DV
 obtain rfl := Option.some.inj H
 go_enter Tryz.func70, Tryz.ntmps70
 go_wp2_with (first | ((with_reducible refine gate_dst (N := 1) rfl ?_); refine bx_ 1 #[.int .i64 aD, .int .i64 aI, .int .i64 aJ, .int .i64 aM, .string aN, .string aQ, .slice dL aV.length dJ] 39 ?_; intro d17 hg w3 hbox hb; have aVH := am_ (hbox); have d1H := gw_ hg; have d0H := gw_ hg; replace HB := bs_ hb; clear hb hbox hg; obtain ⟨bBE, b8S, bCU, bCZ, bES, b8Z, bA4, bCD, b9J, b9C, bAR, b9D, b8X, bCP⟩ := b7_ aVH) | ((with_reducible refine gate_callee (f := 93) rfl ?_); refine gsL_ (some 4) Tryz.func93 #[.agg #[.int .i64 aD, .int .i64 aI, .int .i64 aJ, .int .i64 aM, .string aN, .string aQ, .slice dL aV.length dJ], .int .i64 12] ?_; (with_reducible refine (spec_l03Right.calls k aD aI aJ aM aN aQ _ _ aV 12 aRT _ ?aK ?aT A2.out).mono ?_); (case aK => exact ck_ (Kd.C_below gD.out HB.out)); (case aT => exact gW.out); rintro e w5 ⟨rfl, hb⟩; refine ⟨_, rfl, ?_⟩; replace aVH := bkb_ aVH hb; replace HB := bs_ hb; (try clear hb)))
 go_ret
 exact ⟨er_, bb_⟩

/-! ### spec_l04Below: function 48 -/
def spec_l04Below.f (k : Nat) (aD : Int) (aI : Int) (aJ : Int) (aM : Int) (aN : ByteArray) (aQ : ByteArray) (aV : List (S39)) (a1 : Int) : Option (Bool) := (spec_ColsOf.f k aD aI aJ aM aN aQ aV).bind fun pR => ((spec_ExpOk.f k aD aI aJ aM aN aQ aV).bind fun t210 => (if t210 = true then (if (pR.length : Int) = 0 then (some true) else (if 0 ≤ (wrap64 ((pR.length : Int) - 1)) then (if (wrap64 ((pR.length : Int) - 1)) < (pR.length : Int) then (some (decide ((rd pR (wrap64 ((pR.length : Int) - 1))) < a1))) else (none)) else (none))) else (some false)))
set_option maxHeartbeats 8000000 in
theorem spec_l04Below.calls (k : Nat) (aD : Int) (aI : Int) (aJ : Int) (aM : Int) (aN : ByteArray) (aQ : ByteArray) (dL : Option Addr) (dJ : Nat) (aV : List (S39)) (a1 : Int) (r : Bool) (w : World) (eX : Kd.C gL w dL aV.length aV) (eU : aV.length ≤ dJ) (h : spec_l04Below.f k aD aI aJ aM aN aQ aV a1 = some r) :
  Calls Tryz.prog 48 #[.agg #[.int .i64 aD, .int .i64 aI, .int .i64 aJ, .int .i64 aM, .string aN, .string aQ, .slice dL aV.length dJ], .int .i64 a1] w fun e w' => e = .returned (.bool r) ∧ Below w.heap.size w w' := by
 have vN := Tryz.underlying39
 have gD := am_ eX
 have gW := am_ eU
 clear eX eU
 have HB := am_ (Below.refl w.heap.size w)
 have H : ((spec_ColsOf.f k aD aI aJ aM aN aQ aV).bind fun pR => ((spec_ExpOk.f k aD aI aJ aM aN aQ aV).bind fun t210 => (if t210 = true then (if (pR.length : Int) = 0 then (some true) else (if 0 ≤ (wrap64 ((pR.length : Int) - 1)) then (if (wrap64 ((pR.length : Int) - 1)) < (pR.length : Int) then (some (decide ((rd pR (wrap64 ((pR.length : Int) - 1))) < a1))) else (none)) else (none))) else (some false)))) = some r := h
 clear h
 replace H := bsi_ H
 obtain ⟨pR, E8, H⟩ := H
 try dsimp only at H
 have A3 := am_ E8
 clear E8
 replace H := bsi_ H
 obtain ⟨t210, A40, H⟩ := H
 try dsimp only at H
 have A4 := am_ A40
 clear A40
 by_cases c5 : t210 = true
 ·subst c5
  rw [if_pos rfl] at H
  by_cases c6 : (pR.length : Int) = 0
  ·rw [if_pos c6] at H
   have kN : ((pR.length : Int) == 0) = true := beq_iff_eq.mpr c6; have aFV : ((pR.length : Int) != 0) = false := bne_eq_false_iff_eq.mpr c6; clear c6; obtain rfl := Option.some.inj H
   go_enter Tryz.func48, Tryz.ntmps48
   go_wp2_with (first | ((with_reducible refine gate_dst (N := 2) rfl ?_); (try (refine gate_guard (by rfl) ?_; dsimp only)); refine bx_ 2 #[.int .i64 aD, .int .i64 aI, .int .i64 aJ, .int .i64 aM, .string aN, .string aQ, .slice dL aV.length dJ] 39 ?_; intro b61 hg w7 hbox hb; have nK := am_ (hbox); have b6L := gw_ hg; have aVK := gw_ hg; replace HB := bs_ hb; clear hb hbox hg; obtain ⟨nH, nD, rC, wC, wD, vU, vW, nC, nG, rA, vQ, wF, vP, vY⟩ := b7_ nK) | ((with_reducible refine gate_callee (f := 69) rfl ?_); refine gsL_ (some 7) Tryz.func69 #[.agg #[.int .i64 aD, .int .i64 aI, .int .i64 aJ, .int .i64 aM, .string aN, .string aQ, .slice dL aV.length dJ]] ?_; (with_reducible refine (spec_ColsOf.calls k aD aI aJ aM aN aQ _ _ aV pR _ ?aK ?aT A3.out).mono ?_); (case aK => exact ck_ (Kd.C_below gD.out HB.out)); (case aT => exact gW.out); rintro e w9 ⟨v208, rfl, ho0, hb⟩; refine ⟨_, rfl, ?_⟩; have FW := am_ (Kd.R_lower ho0 (below_size bb_)); replace nK := bkb_ nK hb; replace HB := bs_ hb; (try clear hb); (try clear ho0); obtain ⟨iM, iE, jW, wR, wW, xJ, xA, iJ, iN, kF, y5, wX, xG, xE⟩ := b7_ nK) | ((with_reducible refine gate_callee (f := 70) rfl ?_); refine gsL_ (some 9) Tryz.func70 #[.agg #[.int .i64 aD, .int .i64 aI, .int .i64 aJ, .int .i64 aM, .string aN, .string aQ, .slice dL aV.length dJ]] ?_; (with_reducible refine (spec_ExpOk.calls k aD aI aJ aM aN aQ _ _ aV true _ ?aK ?aT A4.out).mono ?_); (case aK => exact ck_ (Kd.C_below gD.out HB.out)); (case aT => exact gW.out); rintro e iC ⟨rfl, hb⟩; refine ⟨_, rfl, ?_⟩; replace FW := am_ (Kd.R_below (rk_ FW.out) hb); replace nK := bkb_ nK hb; replace HB := bs_ hb; (try clear hb); obtain ⟨yJ, yO, XM⟩ := Kd.R_slice FW.out; subst XM))
   go_ret
   exact ⟨er_, bb_⟩
  ·rw [if_neg c6] at H
   have kN : ((pR.length : Int) == 0) = false := beq_eq_false_iff_ne.mpr c6; have aFV : ((pR.length : Int) != 0) = true := bne_iff_ne.mpr c6; (have d4K : ¬ (pR = []) := fun h_ => c6 (by rw [h_]; rfl)); obtain ⟨a7E, a0J⟩ : ∃ j_ : Int, (wrap64 ((pR.length : Int) - 1)) = j_ := ⟨_, rfl⟩; (replace H : (if 0 ≤ (a7E) then (if (a7E) < (pR.length : Int) then (some (decide ((rd pR (a7E)) < a1))) else (none)) else (none)) = some r := by first | (rw [a0J] at H; exact H) | (simp only [a0J] at H ⊢; exact H)); (try rw [a0J] at A3); (try rw [a0J] at A4); have cWS : (IntKind.i64.wrap ((pR.length : Int) - 1)) = a7E := (i64_w _).trans a0J
   by_cases c14 : 0 ≤ (a7E)
   ·rw [if_pos c14] at H
    have X5 := decide_eq_true c14; clear c14
    by_cases c15 : (a7E) < (pR.length : Int)
    ·rw [if_pos c15] at H
     have aW8 := decide_eq_true c15; clear c15; obtain rfl := Option.some.inj H
     go_enter Tryz.func48, Tryz.ntmps48
     go_wp2_with (first | ((with_reducible refine gate_dst (N := 2) rfl ?_); (try (refine gate_guard (by rfl) ?_; dsimp only)); refine bx_ 2 #[.int .i64 aD, .int .i64 aI, .int .i64 aJ, .int .i64 aM, .string aN, .string aQ, .slice dL aV.length dJ] 39 ?_; intro b61 hg w16 hbox hb; have nK := am_ (hbox); have b6L := gw_ hg; have aVK := gw_ hg; replace HB := bs_ hb; clear hb hbox hg; obtain ⟨pO, oO, qL, wQ, y8, x9, xK, pM, o6, qH, yB, wT, wO, xU⟩ := b7_ nK) | ((with_reducible refine gate_callee (f := 69) rfl ?_); refine gsL_ (some 7) Tryz.func69 #[.agg #[.int .i64 aD, .int .i64 aI, .int .i64 aJ, .int .i64 aM, .string aN, .string aQ, .slice dL aV.length dJ]] ?_; (with_reducible refine (spec_ColsOf.calls k aD aI aJ aM aN aQ _ _ aV pR _ ?aK ?aT A3.out).mono ?_); (case aK => exact ck_ (Kd.C_below gD.out HB.out)); (case aT => exact gW.out); rintro e w18 ⟨v208, rfl, ho0, hb⟩; refine ⟨_, rfl, ?_⟩; have FW := am_ (Kd.R_lower ho0 (below_size bb_)); replace nK := bkb_ nK hb; replace HB := bs_ hb; (try clear hb); (try clear ho0); obtain ⟨y7, wZ, xZ, BO, BH, zM, D8, wV, wK, xN, AL, C9, BN, AB⟩ := b7_ nK) | ((with_reducible refine gate_callee (f := 70) rfl ?_); refine gsL_ (some 9) Tryz.func70 #[.agg #[.int .i64 aD, .int .i64 aI, .int .i64 aJ, .int .i64 aM, .string aN, .string aQ, .slice dL aV.length dJ]] ?_; (with_reducible refine (spec_ExpOk.calls k aD aI aJ aM aN aQ _ _ aV true _ ?aK ?aT A4.out).mono ?_); (case aK => exact ck_ (Kd.C_below gD.out HB.out)); (case aT => exact gW.out); rintro e w20 ⟨rfl, hb⟩; refine ⟨_, rfl, ?_⟩; replace FW := am_ (Kd.R_below (rk_ FW.out) hb); replace nK := bkb_ nK hb; replace HB := bs_ hb; (try clear hb); obtain ⟨c3W, bWJ, b9K⟩ := Kd.R_slice FW.out; subst b9K; have bAO : 0 ≤ ((a7E) : Int) := oa_; have bDR : (a7E) < (pR.length : Int) := oa_; obtain ⟨d0W, e211, cJO⟩ := Kd.at_int (Kd.R_reads' FW.out).2.2 (a7E) bAO bDR; cases e211; replace bAO := eq_true bAO; replace bDR := eq_true bDR))
     go_ret
     (exact ⟨by first | rfl | (simp [errW_none, errW_some] <;> rfl) | (simp only [← a0J]; first | rfl | (simp [errW_none, errW_some] <;> rfl)) | (simp [*, errW_none, errW_some] <;> rfl), by repeat (first | (with_reducible first | exact HB.out | apply below_alloc | apply pw_below_drewN | apply below_drew1 | refine below_set ?_ aVK.out) | exact HB.out)⟩)
    ·rw [if_neg c15] at H
     exact nn_ H
   ·rw [if_neg c14] at H
    exact nn_ H
 ·replace c5 := Bool.eq_false_iff.mpr c5
  subst c5; (rw [if_neg (show ¬ (false = true) by decide)] at H); obtain rfl := Option.some.inj H
  go_enter Tryz.func48, Tryz.ntmps48
  go_wp2_with (first | ((with_reducible refine gate_dst (N := 2) rfl ?_); (try (refine gate_guard (by rfl) ?_; dsimp only)); refine bx_ 2 #[.int .i64 aD, .int .i64 aI, .int .i64 aJ, .int .i64 aM, .string aN, .string aQ, .slice dL aV.length dJ] 39 ?_; intro b61 hg w22 hbox hb; have nK := am_ (hbox); have b6L := gw_ hg; have aVK := gw_ hg; replace HB := bs_ hb; clear hb hbox hg; obtain ⟨lC, kV, kX, oZ, pK, pF, oI, l7, kZ, kW, oU, o9, o7, pI⟩ := b7_ nK) | ((with_reducible refine gate_callee (f := 69) rfl ?_); refine gsL_ (some 7) Tryz.func69 #[.agg #[.int .i64 aD, .int .i64 aI, .int .i64 aJ, .int .i64 aM, .string aN, .string aQ, .slice dL aV.length dJ]] ?_; (with_reducible refine (spec_ColsOf.calls k aD aI aJ aM aN aQ _ _ aV pR _ ?aK ?aT A3.out).mono ?_); (case aK => exact ck_ (Kd.C_below gD.out HB.out)); (case aT => exact gW.out); rintro e w24 ⟨v208, rfl, ho0, hb⟩; refine ⟨_, rfl, ?_⟩; have FW := am_ (Kd.R_lower ho0 (below_size bb_)); replace nK := bkb_ nK hb; replace HB := bs_ hb; (try clear hb); (try clear ho0); obtain ⟨mU, mX, pQ, wP, y9, xM, xI, mP, mR, oJ, yC, yD, xP, xS⟩ := b7_ nK) | ((with_reducible refine gate_callee (f := 70) rfl ?_); refine gsL_ (some 9) Tryz.func70 #[.agg #[.int .i64 aD, .int .i64 aI, .int .i64 aJ, .int .i64 aM, .string aN, .string aQ, .slice dL aV.length dJ]] ?_; (with_reducible refine (spec_ExpOk.calls k aD aI aJ aM aN aQ _ _ aV false _ ?aK ?aT A4.out).mono ?_); (case aK => exact ck_ (Kd.C_below gD.out HB.out)); (case aT => exact gW.out); rintro e w26 ⟨rfl, hb⟩; refine ⟨_, rfl, ?_⟩; replace FW := am_ (Kd.R_below (rk_ FW.out) hb); replace nK := bkb_ nK hb; replace HB := bs_ hb; (try clear hb)))
  go_ret
  exact ⟨er_, bb_⟩

/-! ### spec_l04All: function 49 -/
def spec_l04All.l0 : Nat → List (S39) → Int → Int → Option (Bool)
 | 0, _, _, _ => none
 | k + 1, x0, x1, x5 => if x5 < (x0.length : Int) then (if 0 ≤ x5 then ((spec_l04Below.f k ((rd_T39 x0 x5).f0) ((rd_T39 x0 x5).f1) ((rd_T39 x0 x5).f2.f0) ((rd_T39 x0 x5).f2.f1) ((rd_T39 x0 x5).f2.f2) ((rd_T39 x0 x5).f3) ((rd_T39 x0 x5).f4) x1).bind fun t213 => (if t213 = true then (spec_l04All.l0 k x0 x1 (wrap64 (x5 + 1))) else (some false))) else (none)) else (some true)
def spec_l04All.f (k : Nat) (l0 : List (S39)) (a1 : Int) : Option (Bool) := spec_l04All.l0 k l0 a1 0
set_option maxHeartbeats 8000000 in
theorem spec_l04All.calls (k : Nat) (A0 : Option Addr) (c0 : Nat) (l0 : List (S39)) (a1 : Int) (r : Bool) (w : World) (hr0 : Kd.C gL w A0 l0.length l0) (hc0 : l0.length ≤ c0) (h : spec_l04All.f k l0 a1 = some r) :
  Calls Tryz.prog 49 #[.slice A0 l0.length c0, .int .i64 a1] w fun e w' => e = .returned (.bool r) ∧ Below w.heap.size w w' := by
 have vN := Tryz.underlying39
 have jE := am_ hr0
 have wH := am_ hc0
 clear hr0 hc0
 have HB := am_ (Below.refl w.heap.size w)
 have H : (spec_l04All.l0 k l0 a1 0) = some r := h
 clear h
 have H' := am_ H
 clear H
 go_enter Tryz.func49, Tryz.ntmps49
 go_wp2
 go_loopg [5] k (fun kq v5 w' => ∃ (aC : Int), v5 = .int .i64 aC ∧ Aside0 (spec_l04All.l0 kq l0 a1 aC = some r) ∧ Aside0 (kq ≤ k) ∧ Aside0 (Below w.heap.size w w'))
 case atStart => exact ⟨(0), rs_, H', ⟨Nat.le_refl _⟩, ⟨bb_⟩⟩
 case round =>
  clear H'; (try clear p2); obtain ⟨aC, rfl, HA, kY, HB⟩ := hrel
  cases gk with
  | zero => exact absurd HA.out (by simp [spec_l04All.l0])
  | succ k1 =>
   have H := HA.out; clear HA; simp only [spec_l04All.l0] at H
   by_cases c3 : aC < (l0.length : Int)
   ·rw [if_pos c3] at H
    have fB := decide_eq_true c3; clear c3
    by_cases c4 : 0 ≤ aC
    ·rw [if_pos c4] at H
     have gB := decide_eq_true c4; clear c4; replace H := bsi_ H; obtain ⟨t213, A50, H⟩ := H
     try dsimp only at H
     have A5 := am_ A50; clear A50
     by_cases c6 : t213 = true
     ·subst c6
      rw [if_pos rfl] at H; have H' := am_ H; clear H; (have aFI : 0 ≤ (aC : Int) := oa_); (have aGE : aC < (l0.length : Int) := oa_); obtain ⟨bN2, aG2, aES, e212, KU, KD, MW, MM, M4, NR, RA, R7, RN⟩ := pE jE.out aC aFI aGE; cases e212; replace KU := hb_ HB KU; replace KD := hb_ HB KD; replace MW := hb_ HB MW; replace MM := hb_ HB MM; replace M4 := hb_ HB M4; replace NR := hb_ HB NR; replace RA := hb_ HB RA; have a8J := am_ RN; have a6I := am_ R7; clear RN R7; replace aFI := eq_true aFI; replace aGE := eq_true aGE
      go_wp2_with (first | ((with_reducible refine gate_callee (f := 48) rfl ?_); refine gsL_ (some 17) Tryz.func48 #[.agg #[.int .i64 ((rd_T39 l0 aC).f0), .int .i64 ((rd_T39 l0 aC).f1), .int .i64 ((rd_T39 l0 aC).f2.f0), .int .i64 ((rd_T39 l0 aC).f2.f1), .string ((rd_T39 l0 aC).f2.f2), .string ((rd_T39 l0 aC).f3), .slice aG2 ((rd_T39 l0 aC).f4).length aES], .int .i64 a1] ?_; (with_reducible refine (spec_l04Below.calls k1 ((rd_T39 l0 aC).f0) ((rd_T39 l0 aC).f1) ((rd_T39 l0 aC).f2.f0) ((rd_T39 l0 aC).f2.f1) ((rd_T39 l0 aC).f2.f2) ((rd_T39 l0 aC).f3) _ _ ((rd_T39 l0 aC).f4) a1 true _ ?aK ?aT A5.out).mono ?_); (case aK => exact ck_ (Kd.C_below a8J.out HB.out)); (case aT => exact a6I.out); rintro e w7 ⟨rfl, hb⟩; refine ⟨_, rfl, ?_⟩; replace HB := bs_ hb; (try clear hb)))
      go_roundg k1
      case measure => have := kY.out; omega
      case rel => exact ⟨(wrap64 (aC + 1)), rs_, H', ⟨by have := kY.out; omega⟩, ⟨bb_⟩⟩
     ·replace c6 := Bool.eq_false_iff.mpr c6
      subst c6; (rw [if_neg (show ¬ (false = true) by decide)] at H); obtain rfl := Option.some.inj H; (have aFI : 0 ≤ (aC : Int) := oa_); (have aGE : aC < (l0.length : Int) := oa_); obtain ⟨bN2, aG2, aES, e212, KU, KD, MW, MM, M4, NR, RA, R7, RN⟩ := pE jE.out aC aFI aGE; cases e212; replace KU := hb_ HB KU; replace KD := hb_ HB KD; replace MW := hb_ HB MW; replace MM := hb_ HB MM; replace M4 := hb_ HB M4; replace NR := hb_ HB NR; replace RA := hb_ HB RA; have a8J := am_ RN; have a6I := am_ R7; clear RN R7; replace aFI := eq_true aFI; replace aGE := eq_true aGE
      go_wp2_with (first | ((with_reducible refine gate_callee (f := 48) rfl ?_); refine gsL_ (some 17) Tryz.func48 #[.agg #[.int .i64 ((rd_T39 l0 aC).f0), .int .i64 ((rd_T39 l0 aC).f1), .int .i64 ((rd_T39 l0 aC).f2.f0), .int .i64 ((rd_T39 l0 aC).f2.f1), .string ((rd_T39 l0 aC).f2.f2), .string ((rd_T39 l0 aC).f3), .slice aG2 ((rd_T39 l0 aC).f4).length aES], .int .i64 a1] ?_; (with_reducible refine (spec_l04Below.calls k1 ((rd_T39 l0 aC).f0) ((rd_T39 l0 aC).f1) ((rd_T39 l0 aC).f2.f0) ((rd_T39 l0 aC).f2.f1) ((rd_T39 l0 aC).f2.f2) ((rd_T39 l0 aC).f3) _ _ ((rd_T39 l0 aC).f4) a1 false _ ?aK ?aT A5.out).mono ?_); (case aK => exact ck_ (Kd.C_below a8J.out HB.out)); (case aT => exact a6I.out); rintro e w8 ⟨rfl, hb⟩; refine ⟨_, rfl, ?_⟩; replace HB := bs_ hb; (try clear hb)))
      go_ret
      exact ⟨er_, bb_⟩
    ·rw [if_neg c4] at H
     exact nn_ H
   ·rw [if_neg c3] at H
    have fB := decide_eq_false c3; clear c3; obtain rfl := Option.some.inj H
    go_wp2
    go_ret
    exact ⟨er_, bb_⟩

end Go.Proofs.YtnobhkmpkichdaaGreat.PFnExactWidth
