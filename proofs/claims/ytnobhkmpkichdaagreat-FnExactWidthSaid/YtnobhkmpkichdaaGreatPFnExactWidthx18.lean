-- WRITTEN BY xprint.py, a program of this session over the kit's printer: by nobody's hand
-- PRESSED4 -- PRESSED TWICE3 -- PRESSED TWICE
import Derived.Test.YtnobhkmpkichdaaGreatPress
import Derived.Test.YtnobhkmpkichdaaGreatPress3
import Derived.Test.YtnobhkmpkichdaaGreatPFnExactWidthx0
import Derived.Test.YtnobhkmpkichdaaGreatPFnExactWidthx17
namespace Go.Proofs.YtnobhkmpkichdaaGreat.PFnExactWidth
set_option maxRecDepth 100000
open Go.RowKit Go.Proofs.YtnobhkmpkichdaaGreatW.PrintWords Go.Proofs.YtnobhkmpkichdaaGreatW.PrintLast Go.Proofs.YtnobhkmpkichdaaGreatW.PrintMore
attribute [local go_sem] max2_int min2_int max_two min_two max_three min_three max_four min_four
set_option linter.unusedVariables false
set_option linter.unusedSimpArgs false

/-! ### laws_eqCountedS: function 79 -/
def laws_eqCountedS.l0 : Nat → List (S126) → List (S126) → Int → Option (Bool)
 | 0, _, _, _ => none
 | k + 1, x0, x1, x5 => if x5 < (x0.length : Int) then (if 0 ≤ x5 then (if x5 < (x1.length : Int) then ((laws_eqCounted.f k ((eP x0 x5).f0) ((eP x0 x5).f1) ((eP x1 x5).f0) ((eP x1 x5).f1)).bind fun b9R => (if b9R = true then (laws_eqCountedS.l0 k x0 x1 (wrap64 (x5 + 1))) else (some false))) else (none)) else (none)) else (some true)
def laws_eqCountedS.f (k : Nat) (l0 : List (S126)) (l1 : List (S126)) : Option (Bool) := if (l0.length : Int) = (l1.length : Int) then (laws_eqCountedS.l0 k l0 l1 0) else (some false)
def laws_eqCountedS.T6 : Bool × List (List Nat × List Nat) := (true, [([], []), ([], []), ([0, 1], [0, 1]), ([2], [2]), ([], []), ([], []), ([4, 5], [4, 5]), ([6], [6]), ([3, 7], [3, 7]), ([8], [8])])
def laws_eqCountedS.B6 : List Nat := [0, 0, 3, 7, 0, 0, 48, 112, 255, 511]
theorem laws_eqCountedS.zI : rtab .any (opsOf Tryz.f79 6) = laws_eqCountedS.T6 := by kernel_rfl
theorem laws_eqCountedS.nJ : waitsOk laws_eqCountedS.T6.2 laws_eqCountedS.B6 = true := by kernel_rfl
set_option maxHeartbeats 8000000 in
theorem laws_eqCountedS.calls (k : Nat) (A0 : Option Addr) (c0 : Nat) (l0 : List (S126)) (A1 : Option Addr) (c1 : Nat) (l1 : List (S126)) (r : Bool) (w : World) (hr0 : Kd.C jF w A0 l0.length l0) (hc0 : l0.length ≤ c0) (hr1 : Kd.C jF w A1 l1.length l1) (hc1 : l1.length ≤ c1) (h : laws_eqCountedS.f k l0 l1 = some r) :
  Calls Tryz.prog 79 #[.slice A0 l0.length c0, .slice A1 l1.length c1] w fun e w' => e = .returned (.bool r) ∧ Below w.heap.size w w' := by
 have aQQ := Tryz.underlying126
 have jE := am_ hr0
 have wH := am_ hc0
 clear hr0 hc0
 have HR1 := am_ hr1
 have U6 := am_ hc1
 clear hr1 hc1
 have HB := am_ (Below.refl w.heap.size w)
 have H : (if (l0.length : Int) = (l1.length : Int) then (laws_eqCountedS.l0 k l0 l1 0) else (some false)) = some r := h
 clear h
 by_cases c3 : (l0.length : Int) = (l1.length : Int)
 ·rw [if_pos c3] at H
  have fB : ((l0.length : Int) == (l1.length : Int)) = true := beq_iff_eq.mpr c3; have jG : ((l0.length : Int) != (l1.length : Int)) = false := bne_eq_false_iff_eq.mpr c3; (have MZ : (l0.length == l1.length) = true := by first | simpa using c3 | (simp at c3 ⊢; omega)); clear c3; have H' := am_ H; clear H
  go_enter Tryz.func79, Tryz.ntmps79
  go_wp2
  go_loopg [5] k (fun kq v5 w' => ∃ (aC : Int), v5 = .int .i64 aC ∧ Aside0 (laws_eqCountedS.l0 kq l0 l1 aC = some r) ∧ Aside0 (kq ≤ k) ∧ Aside0 (Below w.heap.size w w'))
  case atStart => exact ⟨(0), rs_, H', ⟨Nat.le_refl _⟩, ⟨bb_⟩⟩
  case round =>
   clear H'; (try clear c1); (try clear p2); (try clear c3); (try clear fB); (try clear jG); (try clear MZ); obtain ⟨aC, rfl, HA, kY, HB⟩ := hrel
   cases gk with
   | zero => exact absurd HA.out (by simp [laws_eqCountedS.l0])
   | succ k1 =>
    have H := HA.out; clear HA; simp only [laws_eqCountedS.l0] at H
    by_cases c4 : aC < (l0.length : Int)
    ·rw [if_pos c4] at H
     have gB := decide_eq_true c4; clear c4
     by_cases c5 : 0 ≤ aC
     ·rw [if_pos c5] at H
      have pV := decide_eq_true c5; clear c5
      by_cases c6 : aC < (l1.length : Int)
      ·rw [if_pos c6] at H
       have kN := decide_eq_true c6; clear c6; replace H := bsi_ H; obtain ⟨b9R, Z7, H⟩ := H
       try dsimp only at H
       have A7 := am_ Z7; clear Z7
       by_cases c8 : b9R = true
       ·subst c8
        rw [if_pos rfl] at H; have H' := am_ H; clear H
        try go_wp2
        replace HB := am_ (below_drew1 HB.out); (have aFP : 0 ≤ (aC : Int) := oa_); (have aG9 : aC < (l0.length : Int) := oa_); obtain ⟨ZL, YL, YB, bCQ, tX, uJ, KT, M9⟩ := VQ jE.out aC aFP aG9; have KA := uJ; have N7 := tX; cases bCQ; replace tX := hb_ HB tX; replace uJ := hb_ HB uJ; have NV := am_ M9; have a1T := am_ KT; clear M9 KT; replace aFP := eq_true aFP; replace aG9 := eq_true aG9; (have aEG : 0 ≤ (aC : Int) := oa_); (have aFE : aC < (l1.length : Int) := oa_); obtain ⟨XO, YH, XY, bDV, uV, rM, LU, QS⟩ := VQ HR1.out aC aEG aFE; have PU := rM; have LW := uV; cases bDV; replace uV := hb_ HB uV; replace rM := hb_ HB rM; have NP := am_ QS; have a6N := am_ LU; clear QS LU; replace aEG := eq_true aEG; replace aFE := eq_true aFE; (refine start_ (n := 10) (S := fun w' => w'.cell? (ZL.add ((aC).toNat * 2)) = some (.slice YL ((eP l0 aC).f0).length YB) ∧ w'.cell? ⟨(ZL.add ((aC).toNat * 2)).block, (ZL.add ((aC).toNat * 2)).off + 1, none⟩ = some (.int .i64 ((eP l0 aC).f1)) ∧ w'.cell? (XO.add ((aC).toNat * 2)) = some (.slice YH ((eP l1 aC).f0).length XY) ∧ w'.cell? ⟨(XO.add ((aC).toNat * 2)).block, (XO.add ((aC).toNat * 2)).off + 1, none⟩ = some (.int .i64 ((eP l1 aC).f1))) (ds := []) (tf 0 10) (by kernel_rfl) rfl rfl ⟨(hb_ HB N7), (hb_ HB KA), (hb_ HB LW), (hb_ HB PU)⟩ (fun hHeld => ?_); refine with_tabW laws_eqCountedS.zI laws_eqCountedS.nJ (fun HT_ HW_ => ?_)); generalize wr.drew = w9 at HB NV NP tX uJ uV rM hHeld ⊢
        iterate 3 (refine pl_ ?_)
        refine plx_ 4 (bm 10 23) ?_; refine plx_ 5 (bm 10 55) ?_; refine plx_ 6 (bm 10 119) ?_; refine tlx_ 3 (tf 7 3) ?_; refine tl_ ?_; refine on1_ (i := 8) (N := some 25) (tf 9 1) (h := fun K hK => ?_); refine gs_ Tryz.func102 #[.agg #[.slice YL ((eP l0 aC).f0).length YB, .int .i64 ((eP l0 aC).f1)], .agg #[.slice YH ((eP l1 aC).f0).length XY, .int .i64 ((eP l1 aC).f1)]] ?_; (with_reducible refine (laws_eqCounted.calls k1 _ _ ((eP l0 aC).f0) ((eP l0 aC).f1) _ _ ((eP l1 aC).f0) ((eP l1 aC).f1) true _ ?aK ?aT ?bB ?bC A7.out).mono ?_); (case aK => exact ck_ (Kd.C_below NV.out HB.out)); (case aT => exact a1T.out); (case bB => exact ck_ (Kd.C_below NP.out HB.out)); (case bC => exact a6N.out); rintro e w10 ⟨rfl, hb⟩; refine ⟨_, rfl, ?_⟩; replace HB := bs_ hb; (try clear hb); refine hK.out _ _ ⟨(have h_ := hb_ HB N7; h_), (have h_ := hb_ HB KA; h_), (have h_ := hb_ HB LW; h_), (have h_ := hb_ HB PU; h_)⟩ (fun hHeld => ?_); clear hK K; refine nm_ ?_; refine plx_ 9 (tf 10 0) ?_; refine done_ (done_of HT_.out (by kernel_rfl)) ?_
        try go_wp2
        go_roundg k1
        case measure => have := kY.out; omega
        case rel => exact ⟨(wrap64 (aC + 1)), rs_, H', ⟨by have := kY.out; omega⟩, ⟨bb_⟩⟩
       ·replace c8 := Bool.eq_false_iff.mpr c8
        subst c8; (rw [if_neg (show ¬ (false = true) by decide)] at H); obtain rfl := Option.some.inj H
        try go_wp2
        replace HB := am_ (below_drew1 HB.out); (have aFP : 0 ≤ (aC : Int) := oa_); (have aG9 : aC < (l0.length : Int) := oa_); obtain ⟨ZL, YL, YB, bCQ, tX, uJ, KT, M9⟩ := VQ jE.out aC aFP aG9; have KA := uJ; have N7 := tX; cases bCQ; replace tX := hb_ HB tX; replace uJ := hb_ HB uJ; have NV := am_ M9; have a1T := am_ KT; clear M9 KT; replace aFP := eq_true aFP; replace aG9 := eq_true aG9; (have aEG : 0 ≤ (aC : Int) := oa_); (have aFE : aC < (l1.length : Int) := oa_); obtain ⟨XO, YH, XY, bDV, uV, rM, LU, QS⟩ := VQ HR1.out aC aEG aFE; have PU := rM; have LW := uV; cases bDV; replace uV := hb_ HB uV; replace rM := hb_ HB rM; have NP := am_ QS; have a6N := am_ LU; clear QS LU; replace aEG := eq_true aEG; replace aFE := eq_true aFE; (refine start_ (n := 10) (S := fun w' => w'.cell? (ZL.add ((aC).toNat * 2)) = some (.slice YL ((eP l0 aC).f0).length YB) ∧ w'.cell? ⟨(ZL.add ((aC).toNat * 2)).block, (ZL.add ((aC).toNat * 2)).off + 1, none⟩ = some (.int .i64 ((eP l0 aC).f1)) ∧ w'.cell? (XO.add ((aC).toNat * 2)) = some (.slice YH ((eP l1 aC).f0).length XY) ∧ w'.cell? ⟨(XO.add ((aC).toNat * 2)).block, (XO.add ((aC).toNat * 2)).off + 1, none⟩ = some (.int .i64 ((eP l1 aC).f1))) (ds := []) (tf 0 10) (by kernel_rfl) rfl rfl ⟨(hb_ HB N7), (hb_ HB KA), (hb_ HB LW), (hb_ HB PU)⟩ (fun hHeld => ?_); refine with_tabW laws_eqCountedS.zI laws_eqCountedS.nJ (fun HT_ HW_ => ?_)); generalize wr.drew = iC at HB NV NP tX uJ uV rM hHeld ⊢
        iterate 3 (refine pl_ ?_)
        refine plx_ 4 (bm 10 23) ?_; refine plx_ 5 (bm 10 55) ?_; refine plx_ 6 (bm 10 119) ?_; refine tlx_ 3 (tf 7 3) ?_; refine tl_ ?_; refine on1_ (i := 8) (N := some 25) (tf 9 1) (h := fun K hK => ?_); refine gs_ Tryz.func102 #[.agg #[.slice YL ((eP l0 aC).f0).length YB, .int .i64 ((eP l0 aC).f1)], .agg #[.slice YH ((eP l1 aC).f0).length XY, .int .i64 ((eP l1 aC).f1)]] ?_; (with_reducible refine (laws_eqCounted.calls k1 _ _ ((eP l0 aC).f0) ((eP l0 aC).f1) _ _ ((eP l1 aC).f0) ((eP l1 aC).f1) false _ ?aK ?aT ?bB ?bC A7.out).mono ?_); (case aK => exact ck_ (Kd.C_below NV.out HB.out)); (case aT => exact a1T.out); (case bB => exact ck_ (Kd.C_below NP.out HB.out)); (case bC => exact a6N.out); rintro e w12 ⟨rfl, hb⟩; refine ⟨_, rfl, ?_⟩; replace HB := bs_ hb; (try clear hb); refine hK.out _ _ ⟨(have h_ := hb_ HB N7; h_), (have h_ := hb_ HB KA; h_), (have h_ := hb_ HB LW; h_), (have h_ := hb_ HB PU; h_)⟩ (fun hHeld => ?_); clear hK K; refine nm_ ?_; refine plx_ 9 (tf 10 0) ?_; refine done_ (done_of HT_.out (by kernel_rfl)) ?_
        try go_wp2
        go_ret
        exact ⟨er_, bb_⟩
      ·rw [if_neg c6] at H
       exact nn_ H
     ·rw [if_neg c5] at H
      exact nn_ H
    ·rw [if_neg c4] at H
     have gB := decide_eq_false c4; clear c4; obtain rfl := Option.some.inj H
     go_wp2
     go_ret
     exact ⟨er_, bb_⟩
 ·rw [if_neg c3] at H
  have fB : ((l0.length : Int) == (l1.length : Int)) = false := beq_eq_false_iff_ne.mpr c3; have jG : ((l0.length : Int) != (l1.length : Int)) = true := bne_iff_ne.mpr c3; (have MZ : (l0.length == l1.length) = false := by first | simpa using c3 | (simp at c3 ⊢; omega)); obtain rfl := Option.some.inj H
  go_enter Tryz.func79, Tryz.ntmps79
  go_wp2
  go_ret
  exact ⟨er_, bb_⟩

/-! ### laws_eqBag: function 54 -/
def laws_eqBag.f (k : Nat) (aD : Int) (iT : List (S126)) (bH : Int) (JF : List (S126)) : Option (Bool) := if aD = bH then ((laws_eqCountedS.f k iT JF).bind fun aVY => (if aVY = true then (some true) else (some false))) else (some false)
set_option maxHeartbeats 8000000 in
theorem laws_eqBag.calls (k : Nat) (aD : Int) (zH : Option Addr) (zL : Nat) (iT : List (S126)) (bH : Int) (aED : Option Addr) (aDP : Nat) (JF : List (S126)) (r : Bool) (w : World) (UI : Kd.C jF w zH iT.length iT) (UD : iT.length ≤ zL) (b8O : Kd.C jF w aED JF.length JF) (b5Z : JF.length ≤ aDP) (h : laws_eqBag.f k aD iT bH JF = some r) :
  Calls Tryz.prog 54 #[.agg #[.int .i64 aD, .slice zH iT.length zL], .agg #[.int .i64 bH, .slice aED JF.length aDP]] w fun e w' => e = .returned (.bool r) ∧ Below w.heap.size w w' := by
 have aPM := Tryz.underlying66
 have X8 := am_ UI
 have Y3 := am_ UD
 clear UI UD
 have b68 := am_ b8O
 have b8H := am_ b5Z
 clear b8O b5Z
 have HB := am_ (Below.refl w.heap.size w)
 have H : (if aD = bH then ((laws_eqCountedS.f k iT JF).bind fun aVY => (if aVY = true then (some true) else (some false))) else (some false)) = some r := h
 clear h
 by_cases c3 : aD = bH
 ·rw [if_pos c3] at H
  have fB : (aD == bH) = true := beq_iff_eq.mpr c3; have jG : (aD != bH) = false := bne_eq_false_iff_eq.mpr c3; clear c3; replace H := bsi_ H; obtain ⟨aVY, A40, H⟩ := H
  try dsimp only at H
  have A4 := am_ A40; clear A40
  by_cases c5 : aVY = true
  ·subst c5
   rw [if_pos rfl] at H; obtain rfl := Option.some.inj H
   go_enter Tryz.func54, Tryz.ntmps54
   go_wp2_with (first | ((with_reducible refine gate_dst (N := 2) rfl ?_); refine bx_ 2 #[.int .i64 aD, .slice zH iT.length zL] 66 ?_; intro b8K hg w6 hbox hb; have lZ := am_ (hbox); have b7N := gw_ hg; have b6T := gw_ hg; replace HB := bs_ hb; clear hb hbox hg) | ((with_reducible refine gate_dst (N := 3) rfl ?_); refine bx_ 3 #[.int .i64 bH, .slice aED JF.length aDP] 66 ?_; intro b8P hg w7 hbox hb; have LV := am_ (hbox); have b72 := gw_ hg; have b7P := gw_ hg; have yY := nl_ hg lZ; have zB := ng_ hg lZ; replace lZ := bkb_ lZ hb; replace HB := bs_ hb; clear hb hbox hg; have aOF := yY.out; have aP1 := zB.out; obtain ⟨nW, nV, nR, oL⟩ := b2_ lZ; obtain ⟨iM, iE, iJ, iN⟩ := b2_ LV) | ((with_reducible refine gate_callee (f := 79) rfl ?_); refine gsL_ (some 14) Tryz.func79 #[.slice zH iT.length zL, .slice aED JF.length aDP] ?_; (with_reducible refine (laws_eqCountedS.calls k _ _ iT _ _ JF true _ ?aK ?aT ?bB ?bC A4.out).mono ?_); (case aK => exact ck_ (Kd.C_below X8.out HB.out)); (case aT => exact Y3.out); (case bB => exact ck_ (Kd.C_below b68.out HB.out)); (case bC => exact b8H.out); rintro e iC ⟨rfl, hb⟩; refine ⟨_, rfl, ?_⟩; replace lZ := bkb_ lZ hb; replace LV := bkb_ LV hb; replace HB := bs_ hb; (try clear hb)))
   go_ret
   exact ⟨er_, bb_⟩
  ·replace c5 := Bool.eq_false_iff.mpr c5
   subst c5; (rw [if_neg (show ¬ (false = true) by decide)] at H); obtain rfl := Option.some.inj H
   go_enter Tryz.func54, Tryz.ntmps54
   go_wp2_with (first | ((with_reducible refine gate_dst (N := 2) rfl ?_); refine bx_ 2 #[.int .i64 aD, .slice zH iT.length zL] 66 ?_; intro b8K hg w12 hbox hb; have lZ := am_ (hbox); have b7N := gw_ hg; have b6T := gw_ hg; replace HB := bs_ hb; clear hb hbox hg) | ((with_reducible refine gate_dst (N := 3) rfl ?_); refine bx_ 3 #[.int .i64 bH, .slice aED JF.length aDP] 66 ?_; intro b8P hg w13 hbox hb; have LV := am_ (hbox); have b72 := gw_ hg; have b7P := gw_ hg; have yY := nl_ hg lZ; have zB := ng_ hg lZ; replace lZ := bkb_ lZ hb; replace HB := bs_ hb; clear hb hbox hg; have aQK := yY.out; have aTM := zB.out; obtain ⟨mV, mI, mK, mW⟩ := b2_ lZ; obtain ⟨mO, mY, mQ, mG⟩ := b2_ LV) | ((with_reducible refine gate_callee (f := 79) rfl ?_); refine gsL_ (some 14) Tryz.func79 #[.slice zH iT.length zL, .slice aED JF.length aDP] ?_; (with_reducible refine (laws_eqCountedS.calls k _ _ iT _ _ JF false _ ?aK ?aT ?bB ?bC A4.out).mono ?_); (case aK => exact ck_ (Kd.C_below X8.out HB.out)); (case aT => exact Y3.out); (case bB => exact ck_ (Kd.C_below b68.out HB.out)); (case bC => exact b8H.out); rintro e w17 ⟨rfl, hb⟩; refine ⟨_, rfl, ?_⟩; replace lZ := bkb_ lZ hb; replace LV := bkb_ LV hb; replace HB := bs_ hb; (try clear hb)))
   go_ret
   exact ⟨er_, bb_⟩
 ·rw [if_neg c3] at H
  have fB : (aD == bH) = false := beq_eq_false_iff_ne.mpr c3; have jG : (aD != bH) = true := bne_iff_ne.mpr c3; obtain rfl := Option.some.inj H
  go_enter Tryz.func54, Tryz.ntmps54
  go_wp2_with (first | ((with_reducible refine gate_dst (N := 2) rfl ?_); refine bx_ 2 #[.int .i64 aD, .slice zH iT.length zL] 66 ?_; intro b8K hg w18 hbox hb; have lZ := am_ (hbox); have b7N := gw_ hg; have b6T := gw_ hg; replace HB := bs_ hb; clear hb hbox hg) | ((with_reducible refine gate_dst (N := 3) rfl ?_); refine bx_ 3 #[.int .i64 bH, .slice aED JF.length aDP] 66 ?_; intro b8P hg w19 hbox hb; have LV := am_ (hbox); have b72 := gw_ hg; have b7P := gw_ hg; have yY := nl_ hg lZ; have zB := ng_ hg lZ; replace lZ := bkb_ lZ hb; replace HB := bs_ hb; clear hb hbox hg; have bMC := yY.out; have bVZ := zB.out; obtain ⟨xW, xY, wS, xV⟩ := b2_ lZ; obtain ⟨GY, H9, II, GG⟩ := b2_ LV))
  go_ret
  exact ⟨er_, bb_⟩

/-! ### laws_eqRel: function 28 -/
def laws_eqRel.f (k : Nat) (aD : ByteArray) (aI : Int) (iF : List (S126)) (bH : ByteArray) (bL : Int) (JH : List (S126)) : Option (Bool) := if aD.toList = bH.toList then ((laws_eqBag.f k aI iF bL JH).bind fun aR1 => (if aR1 = true then (some true) else (some false))) else (some false)
set_option maxHeartbeats 8000000 in
theorem laws_eqRel.calls (k : Nat) (aD : ByteArray) (aI : Int) (yN : Option Addr) (yK : Nat) (iF : List (S126)) (bH : ByteArray) (bL : Int) (aFJ : Option Addr) (aG0 : Nat) (JH : List (S126)) (r : Bool) (w : World) (UF : Kd.C jF w yN iF.length iF) (UQ : iF.length ≤ yK) (b85 : Kd.C jF w aFJ JH.length JH) (b8M : JH.length ≤ aG0) (h : laws_eqRel.f k aD aI iF bH bL JH = some r) :
  Calls Tryz.prog 28 #[.agg #[.string aD, .int .i64 aI, .slice yN iF.length yK], .agg #[.string bH, .int .i64 bL, .slice aFJ JH.length aG0]] w fun e w' => e = .returned (.bool r) ∧ Below w.heap.size w w' := by
 have b43 := Tryz.underlying68
 have aPM := Tryz.underlying66
 have WS := am_ UF
 have YZ := am_ UQ
 clear UF UQ
 have b6Z := am_ b85
 have b6D := am_ b8M
 clear b85 b8M
 have HB := am_ (Below.refl w.heap.size w)
 have H : (if aD.toList = bH.toList then ((laws_eqBag.f k aI iF bL JH).bind fun aR1 => (if aR1 = true then (some true) else (some false))) else (some false)) = some r := h
 clear h
 by_cases c3 : aD.toList = bH.toList
 ·rw [if_pos c3] at H
  have fB : (aD.toList == bH.toList) = true := beq_iff_eq.mpr c3; have jG : (aD.toList != bH.toList) = false := bne_eq_false_iff_eq.mpr c3; clear c3; replace H := bsi_ H; obtain ⟨aR1, A40, H⟩ := H
  try dsimp only at H
  have A4 := am_ A40; clear A40
  by_cases c5 : aR1 = true
  ·subst c5
   rw [if_pos rfl] at H; obtain rfl := Option.some.inj H
   go_enter Tryz.func28, Tryz.ntmps28
   go_wp2_with (first | ((with_reducible refine gate_dst (N := 2) rfl ?_); refine bx_ 2 #[.string aD, .int .i64 aI, .slice yN iF.length yK] 68 ?_; intro b8N hg w6 hbox hb; have mE := am_ (hbox); have b7T := gw_ hg; have b60 := gw_ hg; replace HB := bs_ hb; clear hb hbox hg) | ((with_reducible refine gate_dst (N := 3) rfl ?_); refine bx_ 3 #[.string bH, .int .i64 bL, .slice aFJ JH.length aG0] 68 ?_; intro b75 hg w7 hbox hb; have OH := am_ (hbox); have b67 := gw_ hg; have b7Q := gw_ hg; have zD := nl_ hg mE; have zA := ng_ hg mE; replace mE := bkb_ mE hb; replace HB := bs_ hb; clear hb hbox hg; have aOF := zD.out; have aP1 := zA.out; obtain ⟨nW, nV, yM, nR, oL, yL⟩ := b3_ mE; obtain ⟨iM, iE, jW, iJ, iN, kF⟩ := b3_ OH) | ((with_reducible refine gate_callee (f := 54) rfl ?_); refine gsL_ (some 14) Tryz.func54 #[.agg #[.int .i64 aI, .slice yN iF.length yK], .agg #[.int .i64 bL, .slice aFJ JH.length aG0]] ?_; (with_reducible refine (laws_eqBag.calls k aI _ _ iF bL _ _ JH true _ ?aK ?aT ?bB ?bC A4.out).mono ?_); (case aK => exact ck_ (Kd.C_below WS.out HB.out)); (case aT => exact YZ.out); (case bB => exact ck_ (Kd.C_below b6Z.out HB.out)); (case bC => exact b6D.out); rintro e iC ⟨rfl, hb⟩; refine ⟨_, rfl, ?_⟩; replace mE := bkb_ mE hb; replace OH := bkb_ OH hb; replace HB := bs_ hb; (try clear hb)))
   go_ret
   exact ⟨er_, bb_⟩
  ·replace c5 := Bool.eq_false_iff.mpr c5
   subst c5; (rw [if_neg (show ¬ (false = true) by decide)] at H); obtain rfl := Option.some.inj H
   go_enter Tryz.func28, Tryz.ntmps28
   go_wp2_with (first | ((with_reducible refine gate_dst (N := 2) rfl ?_); refine bx_ 2 #[.string aD, .int .i64 aI, .slice yN iF.length yK] 68 ?_; intro b8N hg w12 hbox hb; have mE := am_ (hbox); have b7T := gw_ hg; have b60 := gw_ hg; replace HB := bs_ hb; clear hb hbox hg) | ((with_reducible refine gate_dst (N := 3) rfl ?_); refine bx_ 3 #[.string bH, .int .i64 bL, .slice aFJ JH.length aG0] 68 ?_; intro b75 hg w13 hbox hb; have OH := am_ (hbox); have b67 := gw_ hg; have b7Q := gw_ hg; have zD := nl_ hg mE; have zA := ng_ hg mE; replace mE := bkb_ mE hb; replace HB := bs_ hb; clear hb hbox hg; have aQK := zD.out; have aTM := zA.out; obtain ⟨mV, mI, oP, mK, mW, oQ⟩ := b3_ mE; obtain ⟨mO, mY, oV, mQ, mG, nX⟩ := b3_ OH) | ((with_reducible refine gate_callee (f := 54) rfl ?_); refine gsL_ (some 14) Tryz.func54 #[.agg #[.int .i64 aI, .slice yN iF.length yK], .agg #[.int .i64 bL, .slice aFJ JH.length aG0]] ?_; (with_reducible refine (laws_eqBag.calls k aI _ _ iF bL _ _ JH false _ ?aK ?aT ?bB ?bC A4.out).mono ?_); (case aK => exact ck_ (Kd.C_below WS.out HB.out)); (case aT => exact YZ.out); (case bB => exact ck_ (Kd.C_below b6Z.out HB.out)); (case bC => exact b6D.out); rintro e w17 ⟨rfl, hb⟩; refine ⟨_, rfl, ?_⟩; replace mE := bkb_ mE hb; replace OH := bkb_ OH hb; replace HB := bs_ hb; (try clear hb)))
   go_ret
   exact ⟨er_, bb_⟩
 ·rw [if_neg c3] at H
  have fB : (aD.toList == bH.toList) = false := beq_eq_false_iff_ne.mpr c3; have jG : (aD.toList != bH.toList) = true := bne_iff_ne.mpr c3; obtain rfl := Option.some.inj H
  go_enter Tryz.func28, Tryz.ntmps28
  go_wp2_with (first | ((with_reducible refine gate_dst (N := 2) rfl ?_); refine bx_ 2 #[.string aD, .int .i64 aI, .slice yN iF.length yK] 68 ?_; intro b8N hg w18 hbox hb; have mE := am_ (hbox); have b7T := gw_ hg; have b60 := gw_ hg; replace HB := bs_ hb; clear hb hbox hg) | ((with_reducible refine gate_dst (N := 3) rfl ?_); refine bx_ 3 #[.string bH, .int .i64 bL, .slice aFJ JH.length aG0] 68 ?_; intro b75 hg w19 hbox hb; have OH := am_ (hbox); have b67 := gw_ hg; have b7Q := gw_ hg; have zD := nl_ hg mE; have zA := ng_ hg mE; replace mE := bkb_ mE hb; replace HB := bs_ hb; clear hb hbox hg; have bMC := zD.out; have bVZ := zA.out; obtain ⟨xW, xY, IE, wS, xV, IU⟩ := b3_ mE; obtain ⟨GY, H9, QI, II, GG, P5⟩ := b3_ OH))
  go_ret
  exact ⟨er_, bb_⟩

end Go.Proofs.YtnobhkmpkichdaaGreat.PFnExactWidth
