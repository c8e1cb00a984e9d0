import Derived.Test.YtnobhkmpkichdaaGreatPress5
import Derived.Test.YtnobhkmpkichdaaGreatPFnExactViewsOkx1
import Derived.Test.YtnobhkmpkichdaaGreatPFnExactViewsOkx0
namespace Go.Proofs.YtnobhkmpkichdaaGreat.PFnExactViewsOk
open Go.RowKit YtnobhkmpkichdaaGreatW.PrintWords YtnobhkmpkichdaaGreatW.PrintLast YtnobhkmpkichdaaGreatW.PrintMore
attribute [local go_sem] aDf aDi aEf aEe aCs aCt aDh aDg
set_option linter.unusedVariables false
set_option maxHeartbeats 8000000
set_option maxRecDepth 100000
set_option linter.unusedSimpArgs false
attribute [local go_sem high] aM0
def eD.l0 : Nat → List S68 → List S68 → Int → Option Bool
 | 0, _, _, _ => none
 | k + 1, x0, x1, x5 => if x5 < (x0.length : Int) then (if 0 ≤ x5 then (if x5 < (x1.length : Int) then ((uO.f k ((dE x0 x5).f0) ((dE x0 x5).f1.f0) ((dE x0 x5).f1.f1) ((dE x1 x5).f0) ((dE x1 x5).f1.f0) ((dE x1 x5).f1.f1)).bind fun t182 => (if t182 = true then (eD.l0 k x0 x1 (wrap64 (x5 + 1))) else (some false))) else (none)) else (none)) else (some true)
def eD.f (k : Nat) (l0 l1 : List S68) : Option Bool := if (l0.length : Int) = (l1.length : Int) then (eD.l0 k l0 l1 0) else (some false)
def eD.T6 : Bool × List (List Nat × List Nat) := (true, [([], []), ([], []), ([0, 1], [0, 1]), ([2], [2]), ([], []), ([], []), ([4, 5], [4, 5]), ([6], [6]), ([3, 7], [3, 7]), ([8], [8])])
def eD.B6 : List Nat := [0, 0, 3, 7, 0, 0, 48, 112, 255, 511]
theorem eD.BF : aEr .any (opsOf Tryz.f11 6) = eD.T6 := by kernel_rfl
theorem eD.pY : aBu eD.T6.2 eD.B6 = true := by kernel_rfl
theorem eD.calls (k : Nat) (A0 : Option Addr) (c0 : Nat) (l0 : List S68) (A1 : Option Addr) (c1 : Nat) (l1 : List S68) (r : Bool) (w : World) (hr0 : Kd.C BC w A0 l0.length l0) (hc0 : l0.length ≤ c0) (hr1 : Kd.C BC w A1 l1.length l1) (hc1 : l1.length ≤ c1) (h : eD.f k l0 l1 = some r) :
  Calls Tryz.prog 11 #[.slice A0 l0.length c0, .slice A1 l1.length c1] w fun e w' => e = .returned (.bool r) ∧ Below w.heap.size w w' := by
 have aJ8 := Tryz.underlying68
 have jY := am_ hr0
 have oQ := am_ hc0
 clear hr0 hc0
 have HR1 := am_ hr1
 have MZ := am_ hc1
 clear hr1 hc1
 have HB := am_ (Below.refl w.heap.size w)
 have H : (if (l0.length : Int) = (l1.length : Int) then (eD.l0 k l0 l1 0) else (some false)) = some r := h
 clear h
 by_cases c3 : (l0.length : Int) = (l1.length : Int)
 ·rw [if_pos c3] at H
  have fC : ((l0.length : Int) == (l1.length : Int)) = true := beq_iff_eq.mpr c3; have lI : ((l0.length : Int) != (l1.length : Int)) = false := bne_eq_false_iff_eq.mpr c3; (have IC : (l0.length == l1.length) = true := by first | simpa using c3 | (simp at c3 ⊢; omega)); clear c3; have H' := am_ H; clear H
  go_enter Tryz.func11, Tryz.ntmps11
  go_wp2
  go_loopg [5] k (fun kq v5 w' => ∃ (aC : Int), v5 = .int .i64 aC ∧ Aside0 (eD.l0 kq l0 l1 aC = some r) ∧ Aside0 (kq ≤ k) ∧ Aside0 (Below w.heap.size w w'))
  case atStart => exact ⟨(0), rs_, H', ⟨Nat.le_refl _⟩, ⟨bb_⟩⟩
  case round =>
   clear H'; (try clear c1); (try clear p2); (try clear c3); (try clear fC); (try clear lI); (try clear IC); obtain ⟨aC, rfl, HA, jK, HB⟩ := hrel
   cases gk with
   | zero => exact absurd HA.out (by simp [eD.l0])
   | succ k1 =>
    have H := HA.out; clear HA; simp only [eD.l0] at H
    by_cases c4 : aC < (l0.length : Int)
    ·rw [if_pos c4] at H
     have iB := decide_eq_true c4; clear c4
     by_cases c5 : 0 ≤ aC
     ·rw [if_pos c5] at H
      have pV := decide_eq_true c5; clear c5
      by_cases c6 : aC < (l1.length : Int)
      ·rw [if_pos c6] at H
       have mY := decide_eq_true c6; clear c6; replace H := aBp H; obtain ⟨t182, ZI, H⟩ := H
       try dsimp only at H
       have A7 := am_ ZI; clear ZI; have gY := am_ H; clear H
       try go_wp2
       replace HB := am_ (aAm HB.out); (have bTB : 0 ≤ (aC : Int) := oa_); (have c0T : aC < (l0.length : Int) := oa_); obtain ⟨dBO, bZU, bRJ, d4R, a4V, a5T, aAD, aW7, aVT⟩ := DW jY.out aC bTB c0T; cases d4R; obtain ⟨bKC, bNO, bL4⟩ := aNo HB a4V a5T aAD; have aPH := am_ aVT; have bE1 := am_ aW7; clear aVT aW7; replace bTB := eq_true bTB; replace c0T := eq_true c0T; (have bUY : 0 ≤ (aC : Int) := oa_); (have bZG : aC < (l1.length : Int) := oa_); obtain ⟨d99, bV7, bX9, e181, a5L, a3A, a5H, aWN, aNF⟩ := DW HR1.out aC bUY bZG; cases e181; obtain ⟨bIB, bM4, bIW⟩ := aNo HB a5L a3A a5H; have aSS := am_ aNF; have bJ8 := am_ aWN; clear aNF aWN; replace bUY := eq_true bUY; replace bZG := eq_true bZG; (refine st_ 10 (hc_ ((hb_ HB a4V)) (hc_ ((hb_ HB a5T)) (hc_ ((hb_ HB aAD)) (hc_ ((hb_ HB a5L)) (hc_ ((hb_ HB a3A)) (hf_ ((hb_ HB a5H)))))))) (fun hHeld => ?_); refine aAv eD.BF eD.pY (fun HT_ HW_ => ?_)); generalize wr.drew = w9 at HB aPH aSS bKC bNO bL4 bIB bM4 bIW hHeld ⊢
       iterate 3 (refine pl_ ?_)
       refine aBa 4 (bm 10 23) ?_; refine aBa 5 (bm 10 55) ?_; refine aBa 6 (bm 10 119) ?_; refine aCx 3 (tf 7 3) ?_; refine tl_ ?_; refine aCm (i := 8) (N := some 25) (tf 9 1) (h := fun K hK => ?_); refine gs_ Tryz.func28 #[.agg #[.string ((dE l0 aC).f0), .int .i64 ((dE l0 aC).f1.f0), .slice bZU ((dE l0 aC).f1.f1).length bRJ], .agg #[.string ((dE l1 aC).f0), .int .i64 ((dE l1 aC).f1.f0), .slice bV7 ((dE l1 aC).f1.f1).length bX9]] ?_; (with_reducible refine (uO.calls _ _ _ _ _ _ _ _ _ _ _ _ _ (cb_ aPH HB) bE1.out (cb_ aSS HB) bJ8.out A7.out).mono ?_); rintro e w10 ⟨rfl, hb⟩; refine ⟨_, rfl, ?_⟩; replace HB := bs_ hb; (try clear hb); refine hK.out _ _ (hc_ (hb_ HB a4V) (hc_ (hb_ HB a5T) (hc_ (hb_ HB aAD) (hc_ (hb_ HB a5L) (hc_ (hb_ HB a3A) (hf_ (hb_ HB a5H))))))) (fun hHeld => ?_); clear hK K; refine nm_ ?_; refine aBa 9 (tf 10 0) ?_; have H := gY.out; clear gY
       by_cases c8 : t182 = true
       ·subst c8
        rw [if_pos rfl] at H; have H' := am_ H; clear H; refine dn_ ?_
        try go_wp2
        go_roundg k1
        case measure => have := jK.out; omega
        case rel => exact ⟨(wrap64 (aC + 1)), rs_, H', ⟨by have := jK.out; omega⟩, ⟨bb_⟩⟩
       ·replace c8 := Bool.eq_false_iff.mpr c8
        subst c8; replace H := aZf H; obtain rfl := Option.some.inj H; refine dn_ ?_
        try go_wp2
        go_ret
        exact ⟨er_, bb_⟩
      ·rw [if_neg c6] at H
       exact nn_ H
     ·rw [if_neg c5] at H
      exact nn_ H
    ·rw [if_neg c4] at H
     have iB := decide_eq_false c4; clear c4; obtain rfl := Option.some.inj H
     go_wp2
     go_ret
     exact ⟨er_, bb_⟩
 ·rw [if_neg c3] at H
  have fC : ((l0.length : Int) == (l1.length : Int)) = false := beq_eq_false_iff_ne.mpr c3; have lI : ((l0.length : Int) != (l1.length : Int)) = true := bne_iff_ne.mpr c3; (have IC : (l0.length == l1.length) = false := by first | simpa using c3 | (simp at c3 ⊢; omega)); obtain rfl := Option.some.inj H
  go_enter Tryz.func11, Tryz.ntmps11
  go_wp2
  go_ret
  exact ⟨er_, bb_⟩

def eP.l0 (E_ : Int → Int → Int → Int → ByteArray → ByteArray → (List S27) → Int → Option Int) : Nat → List S27 → Int → Int → Option Int
 | 0, _, _, _ => none
 | k + 1, x0, x1, x5 => if x5 < (x0.length : Int) then (if 0 ≤ x5 then ((E_ ((dH x0 x5).f0) ((dH x0 x5).f1) ((dH x0 x5).f2.f0) ((dH x0 x5).f2.f1) ((dH x0 x5).f2.f2) ((dH x0 x5).f3) ((dH x0 x5).f4) x1).bind fun aJ5 => (if aJ5 < 0 then (some (-1)) else (eP.l0 E_ k x0 aJ5 (wrap64 (x5 + 1))))) else (none)) else (some x1)
def eP.f (E_ : Int → Int → Int → Int → ByteArray → ByteArray → (List S27) → Int → Option Int) (k : Nat) (l0 : List S27) (a1 : Int) : Option Int := if (wrap64 (a1 - (l0.length : Int))) < 0 then (some (-1)) else (eP.l0 E_ k l0 (wrap64 (a1 - (l0.length : Int))) 0)
theorem eP.calls (E_ : Int → Int → Int → Int → ByteArray → ByteArray → (List S27) → Int → Option Int) (UC : ∀ (aA aD : Int) (aH aK : Int) (aJ aI : ByteArray) (dY : Option Addr) (dR : Nat) (aQ : List S27) (a1 r : Int) (w : World) (gH : Kd.C k27 w dY aQ.length aQ) (gI : aQ.length ≤ dR) (h : E_ aA aD aH aK aJ aI aQ a1 = some r), Calls Tryz.prog 19 #[.agg #[.int .i64 aA, .int .i64 aD, .int .i64 aH, .int .i64 aK, .string aJ, .string aI, .slice dY aQ.length dR], .int .i64 a1] w fun e w' => e = .returned (.int .i64 r) ∧ Below w.heap.size w w') (k : Nat) (A0 : Option Addr) (c0 : Nat) (l0 : List S27) (a1 r : Int) (w : World) (hr0 : Kd.C k27 w A0 l0.length l0) (hc0 : l0.length ≤ c0) (h : eP.f E_ k l0 a1 = some r) :
  Calls Tryz.prog 20 #[.slice A0 l0.length c0, .int .i64 a1] w fun e w' => e = .returned (.int .i64 r) ∧ Below w.heap.size w w' := by
 have b2D := Tryz.underlying27
 have jY := am_ hr0
 have oQ := am_ hc0
 clear hr0 hc0
 have HB := am_ (Below.refl w.heap.size w)
 have H : (if (wrap64 (a1 - (l0.length : Int))) < 0 then (some (-1)) else (eP.l0 E_ k l0 (wrap64 (a1 - (l0.length : Int))) 0)) = some r := h
 clear h
 by_cases c3 : (wrap64 (a1 - (l0.length : Int))) < 0
 ·rw [if_pos c3] at H
  have fC := decide_eq_true c3; clear c3; obtain rfl := Option.some.inj H
  go_enter Tryz.func20, Tryz.ntmps20
  go_wp2
  go_ret
  exact ⟨er_, bb_⟩
 ·rw [if_neg c3] at H
  have fC := decide_eq_false c3; clear c3; have H' := am_ H; clear H
  go_enter Tryz.func20, Tryz.ntmps20
  go_wp2
  go_loopg [1, 5] k (fun kq v1 v5 w' => ∃ (nL : Int) (aC : Int), v1 = .int .i64 nL ∧ v5 = .int .i64 aC ∧ Aside0 (eP.l0 E_ kq l0 nL aC = some r) ∧ Aside0 (kq ≤ k) ∧ Aside0 (Below w.heap.size w w'))
  case atStart => exact ⟨(wrap64 (a1 - (l0.length : Int))), (0), rs_, rs_, H', ⟨Nat.le_refl _⟩, ⟨bb_⟩⟩
  case round =>
   clear H'; (try clear c2); (try clear p2); (try clear c3); (try clear fC); obtain ⟨nL, aC, rfl, rfl, HA, jK, HB⟩ := hrel
   cases gk with
   | zero => exact absurd HA.out (by simp [eP.l0])
   | succ k1 =>
    have H := HA.out; clear HA; simp only [eP.l0] at H
    by_cases c4 : aC < (l0.length : Int)
    ·rw [if_pos c4] at H
     have iB := decide_eq_true c4; clear c4
     by_cases c5 : 0 ≤ aC
     ·rw [if_pos c5] at H
      have pV := decide_eq_true c5; clear c5; replace H := aBp H; obtain ⟨aJ5, D6, H⟩ := H
      try dsimp only at H
      have A6 := am_ D6; clear D6; have gY := am_ H; clear H; (have bSM : 0 ≤ (aC : Int) := oa_); (have bT3 : aC < (l0.length : Int) := oa_); obtain ⟨d8H, b9T, b9D, d4T, aPV, aWM, aWS, aNU, aLP, aNL, aSO, aU9, aU4⟩ := b4F jY.out aC bSM bT3; cases d4T; obtain ⟨aPV, aWM, aWS, aNU, aLP, aNL, aSO⟩ := aSm HB aPV aWM aWS aNU aLP aNL aSO; have aTK := am_ aU4; have aS8 := am_ aU9; clear aU4 aU9; replace bSM := eq_true bSM; replace bT3 := eq_true bT3; have H := gY.out; clear gY
      by_cases c7 : aJ5 < 0
      ·rw [if_pos c7] at H
       have iV := decide_eq_true c7; clear c7; obtain rfl := Option.some.inj H
       go_wp2_with (first | ((with_reducible refine aAa (f := 19) rfl ?_); refine aBh (some 23) Tryz.func19 #[.agg #[.int .i64 ((dH l0 aC).f0), .int .i64 ((dH l0 aC).f1), .int .i64 ((dH l0 aC).f2.f0), .int .i64 ((dH l0 aC).f2.f1), .string ((dH l0 aC).f2.f2), .string ((dH l0 aC).f3), .slice b9T ((dH l0 aC).f4).length b9D], .int .i64 nL] ?_; (with_reducible refine (UC ((dH l0 aC).f0) ((dH l0 aC).f1) ((dH l0 aC).f2.f0) ((dH l0 aC).f2.f1) ((dH l0 aC).f2.f2) ((dH l0 aC).f3) _ _ ((dH l0 aC).f4) nL aJ5 _ ?fM ?fO A6.out).mono ?_); (case fM => exact cb_ aTK HB); (case fO => exact aS8.out); rintro e w8 ⟨rfl, hb⟩; refine ⟨_, rfl, ?_⟩; replace HB := bs_ hb; (try clear hb)))
       go_ret
       exact ⟨er_, bb_⟩
      ·rw [if_neg c7] at H
       have iV := decide_eq_false c7; clear c7; have H' := am_ H; clear H
       go_wp2_with (first | ((with_reducible refine aAa (f := 19) rfl ?_); refine aBh (some 23) Tryz.func19 #[.agg #[.int .i64 ((dH l0 aC).f0), .int .i64 ((dH l0 aC).f1), .int .i64 ((dH l0 aC).f2.f0), .int .i64 ((dH l0 aC).f2.f1), .string ((dH l0 aC).f2.f2), .string ((dH l0 aC).f3), .slice b9T ((dH l0 aC).f4).length b9D], .int .i64 nL] ?_; (with_reducible refine (UC ((dH l0 aC).f0) ((dH l0 aC).f1) ((dH l0 aC).f2.f0) ((dH l0 aC).f2.f1) ((dH l0 aC).f2.f2) ((dH l0 aC).f3) _ _ ((dH l0 aC).f4) nL aJ5 _ ?fM ?fO A6.out).mono ?_); (case fM => exact cb_ aTK HB); (case fO => exact aS8.out); rintro e w8 ⟨rfl, hb⟩; refine ⟨_, rfl, ?_⟩; replace HB := bs_ hb; (try clear hb)))
       go_roundg k1
       case measure => have := jK.out; omega
       case rel => exact ⟨(aJ5), (wrap64 (aC + 1)), rs_, rs_, H', ⟨by have := jK.out; omega⟩, ⟨bb_⟩⟩
     ·rw [if_neg c5] at H
      exact nn_ H
    ·rw [if_neg c4] at H
     have iB := decide_eq_false c4; clear c4; obtain rfl := Option.some.inj H
     go_wp2
     go_ret
     exact ⟨er_, bb_⟩

def eT.f : Nat → Int → Int → Int → Int → ByteArray → ByteArray → (List S27) → Int → Option Int
 | 0, _, _, _, _, _, _, _, _ => none
 | k + 1, aA, aD, aH, aK, aJ, aI, aQ, a1 => (gX.f aH aK aJ a1).bind fun UI => (if UI < 0 then (some (-1)) else (if (wrap64 (UI - (aI.size : Int))) < 0 then (some (-1)) else ((eP.f (eT.f k) k aQ (wrap64 (UI - (aI.size : Int)))).bind fun aIU => (if aIU < 0 then (some (-1)) else (some aIU)))))
theorem eT.calls : ∀ (k : Nat) (aA aD : Int) (aH aK : Int) (aJ aI : ByteArray) (dY : Option Addr) (dR : Nat) (aQ : List S27) (a1 r : Int) (w : World) (gH : Kd.C k27 w dY aQ.length aQ) (gI : aQ.length ≤ dR) (h : eT.f k aA aD aH aK aJ aI aQ a1 = some r),
  Calls Tryz.prog 19 #[.agg #[.int .i64 aA, .int .i64 aD, .int .i64 aH, .int .i64 aK, .string aJ, .string aI, .slice dY aQ.length dR], .int .i64 a1] w fun e w' => e = .returned (.int .i64 r) ∧ Below w.heap.size w w' := by
 intro k
 induction k with
 | zero =>
  intro aA aD aH aK aJ aI dY dR aQ a1 r w gH gI h; exact absurd h (by simp [eT.f])
 | succ k ih_ =>
  intro aA aD aH aK aJ aI dY dR aQ a1 r w gH gI h; obtain ⟨b2D, b68⟩ := d4Y; have jZ := am_ gH; have lG := am_ gI; clear gH gI; have HB := am_ (Below.refl w.heap.size w); (have H : ((gX.f aH aK aJ a1).bind fun UI => (if UI < 0 then (some (-1)) else (if (wrap64 (UI - (aI.size : Int))) < 0 then (some (-1)) else ((eP.f (eT.f k) k aQ (wrap64 (UI - (aI.size : Int)))).bind fun aIU => (if aIU < 0 then (some (-1)) else (some aIU)))))) = some r := h); clear h; replace H := aBp H; obtain ⟨UI, wN, H⟩ := H
  try dsimp only at H
  have A3 := am_ wN; clear wN
  by_cases c4 : UI < 0
  ·rw [if_pos c4] at H
   have iB := decide_eq_true c4; clear c4; obtain rfl := Option.some.inj H
   go_enter Tryz.func19, Tryz.ntmps19
   go_wp2_with (first | ((with_reducible refine aAc (N := 2) rfl ?_); refine bx_ 2 #[.int .i64 aA, .int .i64 aD, .int .i64 aH, .int .i64 aK, .string aJ, .string aI, .slice dY aQ.length dR] 27 ?_; intro b0O hg w5 hbox hb; have q9 := am_ (hbox); have b2T := gw_ hg; replace HB := bs_ hb; clear hb hbox hg; obtain ⟨kW, kU, oU, pG, oK, oJ, oO, kY, lH, oW, oV, p9, pI, oH⟩ := b7_ q9) | ((with_reducible refine aAa (f := 46) rfl ?_); refine aBh (some 8) Tryz.func46 #[.agg #[.int .i64 aH, .int .i64 aK, .string aJ], .int .i64 a1] ?_; (with_reducible refine (gX.calls _ _ _ _ _ _ A3.out).mono ?_); rintro e w7 ⟨rfl, hb⟩; refine ⟨_, rfl, ?_⟩; replace q9 := aAt q9 hb; replace HB := bs_ hb; (try clear hb)))
   go_ret
   exact ⟨er_, bb_⟩
  ·rw [if_neg c4] at H
   have iB := decide_eq_false c4; clear c4
   by_cases c8 : (wrap64 (UI - (aI.size : Int))) < 0
   ·rw [if_pos c8] at H
    have J4 := decide_eq_true c8; clear c8; obtain rfl := Option.some.inj H
    go_enter Tryz.func19, Tryz.ntmps19
    go_wp2_with (first | ((with_reducible refine aAc (N := 2) rfl ?_); refine bx_ 2 #[.int .i64 aA, .int .i64 aD, .int .i64 aH, .int .i64 aK, .string aJ, .string aI, .slice dY aQ.length dR] 27 ?_; intro b0O hg w9 hbox hb; have q9 := am_ (hbox); have b2T := gw_ hg; replace HB := bs_ hb; clear hb hbox hg; obtain ⟨lN, lL, nI, DD, BX, DI, D8, lM, lJ, nD, DF, CU, CE, CV⟩ := b7_ q9) | ((with_reducible refine aAa (f := 46) rfl ?_); refine aBh (some 8) Tryz.func46 #[.agg #[.int .i64 aH, .int .i64 aK, .string aJ], .int .i64 a1] ?_; (with_reducible refine (gX.calls _ _ _ _ _ _ A3.out).mono ?_); rintro e jI ⟨rfl, hb⟩; refine ⟨_, rfl, ?_⟩; replace q9 := aAt q9 hb; replace HB := bs_ hb; (try clear hb); obtain ⟨uI, tF, xS, GK, FY, FZ, GJ, uA, sG, xW, FV, GA, G5, FN⟩ := b7_ q9))
    go_ret
    exact ⟨er_, bb_⟩
   ·rw [if_neg c8] at H
    have J4 := decide_eq_false c8; clear c8; replace H := aBp H; obtain ⟨aIU, aI2, H⟩ := H
    try dsimp only at H
    have A13 := am_ aI2; clear aI2
    by_cases c14 : aIU < 0
    ·rw [if_pos c14] at H
     have ZK := decide_eq_true c14; clear c14; obtain rfl := Option.some.inj H
     go_enter Tryz.func19, Tryz.ntmps19
     go_wp2_with (first | ((with_reducible refine aAc (N := 2) rfl ?_); refine bx_ 2 #[.int .i64 aA, .int .i64 aD, .int .i64 aH, .int .i64 aK, .string aJ, .string aI, .slice dY aQ.length dR] 27 ?_; intro b0O hg w15 hbox hb; have q9 := am_ (hbox); have b2T := gw_ hg; replace HB := bs_ hb; clear hb hbox hg; obtain ⟨rH, rO, tQ, vE, vW, vY, wG, rE, rP, sP, vN, vM, vT, wF⟩ := b7_ q9) | ((with_reducible refine aAa (f := 46) rfl ?_); refine aBh (some 8) Tryz.func46 #[.agg #[.int .i64 aH, .int .i64 aK, .string aJ], .int .i64 a1] ?_; (with_reducible refine (gX.calls _ _ _ _ _ _ A3.out).mono ?_); rintro e w17 ⟨rfl, hb⟩; refine ⟨_, rfl, ?_⟩; replace q9 := aAt q9 hb; replace HB := bs_ hb; (try clear hb); obtain ⟨tY, tJ, yJ, GR, FB, G7, GL, tK, sO, yP, F7, FQ, F8, GH⟩ := b7_ q9) | ((with_reducible refine aAa (f := 20) rfl ?_); refine aBh (some 21) Tryz.func20 #[.slice dY aQ.length dR, .int .i64 (wrap64 (UI - (aI.size : Int)))] ?_; (with_reducible refine (eP.calls _ ih_ _ _ _ _ _ _ _ (cb_ jZ HB) lG.out A13.out).mono ?_); rintro e w19 ⟨rfl, hb⟩; refine ⟨_, rfl, ?_⟩; replace q9 := aAt q9 hb; replace HB := bs_ hb; (try clear hb)))
     go_ret
     exact ⟨er_, bb_⟩
    ·rw [if_neg c14] at H
     have ZK := decide_eq_false c14; clear c14; obtain rfl := Option.some.inj H
     go_enter Tryz.func19, Tryz.ntmps19
     go_wp2_with (first | ((with_reducible refine aAc (N := 2) rfl ?_); refine bx_ 2 #[.int .i64 aA, .int .i64 aD, .int .i64 aH, .int .i64 aK, .string aJ, .string aI, .slice dY aQ.length dR] 27 ?_; intro b0O hg w20 hbox hb; have q9 := am_ (hbox); have b2T := gw_ hg; replace HB := bs_ hb; clear hb hbox hg; obtain ⟨uD, uC, y7, LQ, LC, KY, MF, tZ, sU, yA, KV, MJ, M4, KS⟩ := b7_ q9) | ((with_reducible refine aAa (f := 46) rfl ?_); refine aBh (some 8) Tryz.func46 #[.agg #[.int .i64 aH, .int .i64 aK, .string aJ], .int .i64 a1] ?_; (with_reducible refine (gX.calls _ _ _ _ _ _ A3.out).mono ?_); rintro e w22 ⟨rfl, hb⟩; refine ⟨_, rfl, ?_⟩; replace q9 := aAt q9 hb; replace HB := bs_ hb; (try clear hb); obtain ⟨tC, sH, sQ, yO, yK, xO, yS, sK, sV, sS, xM, yQ, xK, yM⟩ := b7_ q9) | ((with_reducible refine aAa (f := 20) rfl ?_); refine aBh (some 21) Tryz.func20 #[.slice dY aQ.length dR, .int .i64 (wrap64 (UI - (aI.size : Int)))] ?_; (with_reducible refine (eP.calls _ ih_ _ _ _ _ _ _ _ (cb_ jZ HB) lG.out A13.out).mono ?_); rintro e w24 ⟨rfl, hb⟩; refine ⟨_, rfl, ?_⟩; replace q9 := aAt q9 hb; replace HB := bs_ hb; (try clear hb)))
     go_ret
     exact ⟨er_, bb_⟩

def gV.l0 (E_ : Int → ByteArray → Int → Int → Int → Int → ByteArray → ByteArray → (List S27) → (List S27) → Int → (List S30) → Int → Option Int) : Nat → List S30 → Int → Int → Option Int
 | 0, _, _, _ => none
 | k + 1, x0, x1, x5 => if x5 < (x0.length : Int) then (if 0 ≤ x5 then ((E_ ((aZ x0 x5).f0) ((aZ x0 x5).f1) ((aZ x0 x5).f2.f0) ((aZ x0 x5).f2.f1) ((aZ x0 x5).f2.f2.f0) ((aZ x0 x5).f2.f2.f1) ((aZ x0 x5).f2.f2.f2) ((aZ x0 x5).f2.f3) ((aZ x0 x5).f2.f4) ((aZ x0 x5).f3) ((aZ x0 x5).f4) ((aZ x0 x5).f5) x1).bind fun aJH => (if aJH < 0 then (some (-1)) else (gV.l0 E_ k x0 aJH (wrap64 (x5 + 1))))) else (none)) else (some x1)
def gV.f (E_ : Int → ByteArray → Int → Int → Int → Int → ByteArray → ByteArray → (List S27) → (List S27) → Int → (List S30) → Int → Option Int) (k : Nat) (l0 : List S30) (a1 : Int) : Option Int := if (wrap64 (a1 - (l0.length : Int))) < 0 then (some (-1)) else (gV.l0 E_ k l0 (wrap64 (a1 - (l0.length : Int))) 0)
theorem gV.calls (E_ : Int → ByteArray → Int → Int → Int → Int → ByteArray → ByteArray → (List S27) → (List S27) → Int → (List S30) → Int → Option Int) (UC : ∀ (aA : Int) (aD : ByteArray) (aH aK : Int) (aJ aI : Int) (bC bB : ByteArray) (dN : Option Addr) (dQ : Nat) (bG : List S27) (bZ : Option Addr) (cB : Nat) (aV : List S27) (aW : Int) (bP : Option Addr) (bM : Nat) (aM : List S30) (a1 r : Int) (w : World) (mG : Kd.C k27 w dN bG.length bG) (lV : bG.length ≤ dQ) (jG : Kd.C k27 w bZ aV.length aV) (jH : aV.length ≤ cB) (jS : Kd.C k30 w bP aM.length aM) (jN : aM.length ≤ bM) (h : E_ aA aD aH aK aJ aI bC bB bG aV aW aM a1 = some r), Calls Tryz.prog 6 #[.agg #[.int .i64 aA, .string aD, .int .i64 aH, .int .i64 aK, .int .i64 aJ, .int .i64 aI, .string bC, .string bB, .slice dN bG.length dQ, .slice bZ aV.length cB, .int .i64 aW, .slice bP aM.length bM], .int .i64 a1] w fun e w' => e = .returned (.int .i64 r) ∧ Below w.heap.size w w') (k : Nat) (A0 : Option Addr) (c0 : Nat) (l0 : List S30) (a1 r : Int) (w : World) (hr0 : Kd.C k30 w A0 l0.length l0) (hc0 : l0.length ≤ c0) (h : gV.f E_ k l0 a1 = some r) :
  Calls Tryz.prog 21 #[.slice A0 l0.length c0, .int .i64 a1] w fun e w' => e = .returned (.int .i64 r) ∧ Below w.heap.size w w' := by
 have b3H := Tryz.underlying30
 have jY := am_ hr0
 have oQ := am_ hc0
 clear hr0 hc0
 have HB := am_ (Below.refl w.heap.size w)
 have H : (if (wrap64 (a1 - (l0.length : Int))) < 0 then (some (-1)) else (gV.l0 E_ k l0 (wrap64 (a1 - (l0.length : Int))) 0)) = some r := h
 clear h
 by_cases c3 : (wrap64 (a1 - (l0.length : Int))) < 0
 ·rw [if_pos c3] at H
  have fC := decide_eq_true c3; clear c3; obtain rfl := Option.some.inj H
  go_enter Tryz.func21, Tryz.ntmps21
  go_wp2
  go_ret
  exact ⟨er_, bb_⟩
 ·rw [if_neg c3] at H
  have fC := decide_eq_false c3; clear c3; have H' := am_ H; clear H
  go_enter Tryz.func21, Tryz.ntmps21
  go_wp2
  go_loopg [1, 5] k (fun kq v1 v5 w' => ∃ (nL : Int) (aC : Int), v1 = .int .i64 nL ∧ v5 = .int .i64 aC ∧ Aside0 (gV.l0 E_ kq l0 nL aC = some r) ∧ Aside0 (kq ≤ k) ∧ Aside0 (Below w.heap.size w w'))
  case atStart => exact ⟨(wrap64 (a1 - (l0.length : Int))), (0), rs_, rs_, H', ⟨Nat.le_refl _⟩, ⟨bb_⟩⟩
  case round =>
   clear H'; (try clear c2); (try clear p2); (try clear c3); (try clear fC); obtain ⟨nL, aC, rfl, rfl, HA, jK, HB⟩ := hrel
   cases gk with
   | zero => exact absurd HA.out (by simp [gV.l0])
   | succ k1 =>
    have H := HA.out; clear HA; simp only [gV.l0] at H
    by_cases c4 : aC < (l0.length : Int)
    ·rw [if_pos c4] at H
     have iB := decide_eq_true c4; clear c4
     by_cases c5 : 0 ≤ aC
     ·rw [if_pos c5] at H
      have pV := decide_eq_true c5; clear c5; replace H := aBp H; obtain ⟨aJH, D6, H⟩ := H
      try dsimp only at H
      have A6 := am_ D6; clear D6; have gY := am_ H; clear H; (have bUD : 0 ≤ (aC : Int) := oa_); (have c0L : aC < (l0.length : Int) := oa_); obtain ⟨dAO, b54, bA3, b3N, b0X, aUY, aXW, d51, aQD, aRB, aO1, aKW, aPR, aM3, aUD, aRL, aTB, aN5, aF3, aGA, aPD, aNS, aP1, aPN, aG2, aGN⟩ := b5E jY.out aC bUD c0L; cases d51; obtain ⟨aQD, aRB, aO1, aKW, aPR, aM3, aUD, aRL, aTB, aN5, aF3, aGA⟩ := aNq HB aQD aRB aO1 aKW aPR aM3 aUD aRL aTB aN5 aF3 aGA; have aUZ := am_ aNS; have aX8 := am_ aPD; clear aNS aPD; have aMR := am_ aPN; have aO9 := am_ aP1; clear aPN aP1; have aIG := am_ aGN; have aG5 := am_ aG2; clear aGN aG2; replace bUD := eq_true bUD; replace c0L := eq_true c0L; have H := gY.out; clear gY
      by_cases c7 : aJH < 0
      ·rw [if_pos c7] at H
       have iV := decide_eq_true c7; clear c7; obtain rfl := Option.some.inj H
       go_wp2_with (first | ((with_reducible refine aAa (f := 6) rfl ?_); refine aBh (some 23) Tryz.func6 #[.agg #[.int .i64 ((aZ l0 aC).f0), .string ((aZ l0 aC).f1), .int .i64 ((aZ l0 aC).f2.f0), .int .i64 ((aZ l0 aC).f2.f1), .int .i64 ((aZ l0 aC).f2.f2.f0), .int .i64 ((aZ l0 aC).f2.f2.f1), .string ((aZ l0 aC).f2.f2.f2), .string ((aZ l0 aC).f2.f3), .slice b54 ((aZ l0 aC).f2.f4).length bA3, .slice b3N ((aZ l0 aC).f3).length b0X, .int .i64 ((aZ l0 aC).f4), .slice aUY ((aZ l0 aC).f5).length aXW], .int .i64 nL] ?_; (with_reducible refine (UC ((aZ l0 aC).f0) ((aZ l0 aC).f1) ((aZ l0 aC).f2.f0) ((aZ l0 aC).f2.f1) ((aZ l0 aC).f2.f2.f0) ((aZ l0 aC).f2.f2.f1) ((aZ l0 aC).f2.f2.f2) ((aZ l0 aC).f2.f3) _ _ ((aZ l0 aC).f2.f4) _ _ ((aZ l0 aC).f3) ((aZ l0 aC).f4) _ _ ((aZ l0 aC).f5) nL aJH _ ?fM ?fO ?iN ?j3 ?zO ?zL A6.out).mono ?_); (case fM => exact cb_ aUZ HB); (case fO => exact aX8.out); (case iN => exact cb_ aMR HB); (case j3 => exact aO9.out); (case zO => exact cb_ aIG HB); (case zL => exact aG5.out); rintro e w8 ⟨rfl, hb⟩; refine ⟨_, rfl, ?_⟩; replace HB := bs_ hb; (try clear hb)))
       go_ret
       exact ⟨er_, bb_⟩
      ·rw [if_neg c7] at H
       have iV := decide_eq_false c7; clear c7; have H' := am_ H; clear H
       go_wp2_with (first | ((with_reducible refine aAa (f := 6) rfl ?_); refine aBh (some 23) Tryz.func6 #[.agg #[.int .i64 ((aZ l0 aC).f0), .string ((aZ l0 aC).f1), .int .i64 ((aZ l0 aC).f2.f0), .int .i64 ((aZ l0 aC).f2.f1), .int .i64 ((aZ l0 aC).f2.f2.f0), .int .i64 ((aZ l0 aC).f2.f2.f1), .string ((aZ l0 aC).f2.f2.f2), .string ((aZ l0 aC).f2.f3), .slice b54 ((aZ l0 aC).f2.f4).length bA3, .slice b3N ((aZ l0 aC).f3).length b0X, .int .i64 ((aZ l0 aC).f4), .slice aUY ((aZ l0 aC).f5).length aXW], .int .i64 nL] ?_; (with_reducible refine (UC ((aZ l0 aC).f0) ((aZ l0 aC).f1) ((aZ l0 aC).f2.f0) ((aZ l0 aC).f2.f1) ((aZ l0 aC).f2.f2.f0) ((aZ l0 aC).f2.f2.f1) ((aZ l0 aC).f2.f2.f2) ((aZ l0 aC).f2.f3) _ _ ((aZ l0 aC).f2.f4) _ _ ((aZ l0 aC).f3) ((aZ l0 aC).f4) _ _ ((aZ l0 aC).f5) nL aJH _ ?fM ?fO ?iN ?j3 ?zO ?zL A6.out).mono ?_); (case fM => exact cb_ aUZ HB); (case fO => exact aX8.out); (case iN => exact cb_ aMR HB); (case j3 => exact aO9.out); (case zO => exact cb_ aIG HB); (case zL => exact aG5.out); rintro e w8 ⟨rfl, hb⟩; refine ⟨_, rfl, ?_⟩; replace HB := bs_ hb; (try clear hb)))
       go_roundg k1
       case measure => have := jK.out; omega
       case rel => exact ⟨(aJH), (wrap64 (aC + 1)), rs_, rs_, H', ⟨by have := jK.out; omega⟩, ⟨bb_⟩⟩
     ·rw [if_neg c5] at H
      exact nn_ H
    ·rw [if_neg c4] at H
     have iB := decide_eq_false c4; clear c4; obtain rfl := Option.some.inj H
     go_wp2
     go_ret
     exact ⟨er_, bb_⟩

def iC.f : Nat → Int → ByteArray → Int → Int → Int → Int → ByteArray → ByteArray → (List S27) → (List S27) → Int → (List S30) → Int → Option Int
 | 0, _, _, _, _, _, _, _, _, _, _, _, _, _ => none
 | k + 1, aA, aD, aH, aK, aJ, aI, bC, bB, bG, aV, aW, aM, a1 => if (wrap64 (a1 - (aD.size : Int))) < 0 then (some (-1)) else ((eT.f k aH aK aJ aI bC bB bG (wrap64 (a1 - (aD.size : Int)))).bind fun a0F => (if a0F < 0 then (some (-1)) else ((eP.f (eT.f k) k aV a0F).bind fun a3C => (if a3C < 0 then (some (-1)) else ((gV.f (iC.f k) k aM a3C).bind fun t193 => (if t193 < 0 then (some (-1)) else (some t193)))))))
theorem iC.calls : ∀ (k : Nat) (aA : Int) (aD : ByteArray) (aH aK : Int) (aJ aI : Int) (bC bB : ByteArray) (dN : Option Addr) (dQ : Nat) (bG : List S27) (bZ : Option Addr) (cB : Nat) (aV : List S27) (aW : Int) (bP : Option Addr) (bM : Nat) (aM : List S30) (a1 r : Int) (w : World) (mG : Kd.C k27 w dN bG.length bG) (lV : bG.length ≤ dQ) (jG : Kd.C k27 w bZ aV.length aV) (jH : aV.length ≤ cB) (jS : Kd.C k30 w bP aM.length aM) (jN : aM.length ≤ bM) (h : iC.f k aA aD aH aK aJ aI bC bB bG aV aW aM a1 = some r),
  Calls Tryz.prog 6 #[.agg #[.int .i64 aA, .string aD, .int .i64 aH, .int .i64 aK, .int .i64 aJ, .int .i64 aI, .string bC, .string bB, .slice dN bG.length dQ, .slice bZ aV.length cB, .int .i64 aW, .slice bP aM.length bM], .int .i64 a1] w fun e w' => e = .returned (.int .i64 r) ∧ Below w.heap.size w w' := by
 intro k
 induction k with
 | zero =>
  intro aA aD aH aK aJ aI bC bB dN dQ bG bZ cB aV aW bP bM aM a1 r w mG lV jG jH jS jN h; exact absurd h (by simp [iC.f])
 | succ k ih_ =>
  intro aA aD aH aK aJ aI bC bB dN dQ bG bZ cB aV aW bP bM aM a1 r w mG lV jG jH jS jN h; obtain ⟨b3H, b2D⟩ := d52; have iG := am_ mG; have iD := am_ lV; clear mG lV; have iR := am_ jG; have iZ := am_ jH; clear jG jH; have jE := am_ jS; have jR := am_ jN; clear jS jN; have HB := am_ (Below.refl w.heap.size w); (have H : (if (wrap64 (a1 - (aD.size : Int))) < 0 then (some (-1)) else ((eT.f k aH aK aJ aI bC bB bG (wrap64 (a1 - (aD.size : Int)))).bind fun a0F => (if a0F < 0 then (some (-1)) else ((eP.f (eT.f k) k aV a0F).bind fun a3C => (if a3C < 0 then (some (-1)) else ((gV.f (iC.f k) k aM a3C).bind fun t193 => (if t193 < 0 then (some (-1)) else (some t193)))))))) = some r := h); clear h
  by_cases c3 : (wrap64 (a1 - (aD.size : Int))) < 0
  ·rw [if_pos c3] at H
   have fC := decide_eq_true c3; clear c3; obtain rfl := Option.some.inj H
   go_enter Tryz.func6, Tryz.ntmps6
   go_wp2_with (first | ((with_reducible refine aAc (N := 2) rfl ?_); refine bx_ 2 #[.int .i64 aA, .string aD, .int .i64 aH, .int .i64 aK, .int .i64 aJ, .int .i64 aI, .string bC, .string bB, .slice dN bG.length dQ, .slice bZ aV.length cB, .int .i64 aW, .slice bP aM.length bM] 30 ?_; intro aNX hg w4 hbox hb; have kQ := am_ (hbox); have aOB := gw_ hg; replace HB := bs_ hb; clear hb hbox hg; obtain ⟨IG, JR, JN, a6C, a2V, a2T, a9I, a2U, a2Y, a2W, VA, XF, IK, IW, IX, aB2, a8V, aAC, a8O, aBX, aB7, a9Z, W9, XJ⟩ := aBw kQ))
   go_ret
   exact ⟨er_, bb_⟩
  ·rw [if_neg c3] at H
   have fC := decide_eq_false c3; clear c3; replace H := aBp H; obtain ⟨a0F, D6, H⟩ := H
   try dsimp only at H
   have A6 := am_ D6; clear D6
   by_cases c7 : a0F < 0
   ·rw [if_pos c7] at H
    have iV := decide_eq_true c7; clear c7; obtain rfl := Option.some.inj H
    go_enter Tryz.func6, Tryz.ntmps6
    go_wp2_with (first | ((with_reducible refine aAc (N := 2) rfl ?_); refine bx_ 2 #[.int .i64 aA, .string aD, .int .i64 aH, .int .i64 aK, .int .i64 aJ, .int .i64 aI, .string bC, .string bB, .slice dN bG.length dQ, .slice bZ aV.length cB, .int .i64 aW, .slice bP aM.length bM] 30 ?_; intro aNX hg w8 hbox hb; have kQ := am_ (hbox); have aOB := gw_ hg; replace HB := bs_ hb; clear hb hbox hg; obtain ⟨mX, nC, xB, K7, JW, KA, IY, b8V, b9Z, b1C, aM7, aPL, nH, nG, x9, JG, JO, J6, II, b41, b2U, b5Q, aN6, aNK⟩ := aBw kQ) | ((with_reducible refine aAa (f := 19) rfl ?_); refine aBh (some 15) Tryz.func19 #[.agg #[.int .i64 aH, .int .i64 aK, .int .i64 aJ, .int .i64 aI, .string bC, .string bB, .slice dN bG.length dQ], .int .i64 (wrap64 (a1 - (aD.size : Int)))] ?_; (with_reducible refine (eT.calls _ _ _ _ _ _ _ _ _ _ _ _ _ (cb_ iG HB) iD.out A6.out).mono ?_); rintro e w10 ⟨rfl, hb⟩; refine ⟨_, rfl, ?_⟩; replace kQ := aAt kQ hb; replace HB := bs_ hb; (try clear hb)))
    go_ret
    exact ⟨er_, bb_⟩
   ·rw [if_neg c7] at H
    have iV := decide_eq_false c7; clear c7; replace H := aBp H; obtain ⟨a3C, N7, H⟩ := H
    try dsimp only at H
    have MX := am_ N7; clear N7
    by_cases c12 : a3C < 0
    ·rw [if_pos c12] at H
     have uK := decide_eq_true c12; clear c12; obtain rfl := Option.some.inj H
     go_enter Tryz.func6, Tryz.ntmps6
     go_wp2_with (first | ((with_reducible refine aAc (N := 2) rfl ?_); refine bx_ 2 #[.int .i64 aA, .string aD, .int .i64 aH, .int .i64 aK, .int .i64 aJ, .int .i64 aI, .string bC, .string bB, .slice dN bG.length dQ, .slice bZ aV.length cB, .int .i64 aW, .slice bP aM.length bM] 30 ?_; intro aNX hg ZO hbox hb; have kQ := am_ (hbox); have aOB := gw_ hg; replace HB := bs_ hb; clear hb hbox hg; obtain ⟨nZ, nV, rD, vX, vP, vZ, wB, D9, CG, BL, wS, wM, oG, nW, rA, wH, vJ, vG, vC, CL, BI, DJ, wX, wO⟩ := aBw kQ) | ((with_reducible refine aAa (f := 19) rfl ?_); refine aBh (some 15) Tryz.func19 #[.agg #[.int .i64 aH, .int .i64 aK, .int .i64 aJ, .int .i64 aI, .string bC, .string bB, .slice dN bG.length dQ], .int .i64 (wrap64 (a1 - (aD.size : Int)))] ?_; (with_reducible refine (eT.calls _ _ _ _ _ _ _ _ _ _ _ _ _ (cb_ iG HB) iD.out A6.out).mono ?_); rintro e w15 ⟨rfl, hb⟩; refine ⟨_, rfl, ?_⟩; replace kQ := aAt kQ hb; replace HB := bs_ hb; (try clear hb); obtain ⟨rH, rO, tQ, vE, vW, vY, wG, LP, LW, MQ, EG, ES, rE, rP, sP, vN, vM, vT, wF, KE, L8, KQ, E9, EQ⟩ := aBw kQ) | ((with_reducible refine aAa (f := 20) rfl ?_); refine aBh (some 21) Tryz.func20 #[.slice bZ aV.length cB, .int .i64 a0F] ?_; (with_reducible refine (eP.calls _ (eT.calls k) _ _ _ _ _ _ _ (cb_ iR HB) iZ.out MX.out).mono ?_); rintro e w17 ⟨rfl, hb⟩; refine ⟨_, rfl, ?_⟩; replace kQ := aAt kQ hb; replace HB := bs_ hb; (try clear hb)))
     go_ret
     exact ⟨er_, bb_⟩
    ·rw [if_neg c12] at H
     have uK := decide_eq_false c12; clear c12; replace H := aBp H; obtain ⟨t193, b2O, H⟩ := H
     try dsimp only at H
     have A18 := am_ b2O; clear b2O
     by_cases c19 : t193 < 0
     ·rw [if_pos c19] at H
      have U4 := decide_eq_true c19; clear c19; obtain rfl := Option.some.inj H
      go_enter Tryz.func6, Tryz.ntmps6
      go_wp2_with (first | ((with_reducible refine aAc (N := 2) rfl ?_); refine bx_ 2 #[.int .i64 aA, .string aD, .int .i64 aH, .int .i64 aK, .int .i64 aJ, .int .i64 aI, .string bC, .string bB, .slice dN bG.length dQ, .slice bZ aV.length cB, .int .i64 aW, .slice bP aM.length bM] 30 ?_; intro aNX hg w20 hbox hb; have kQ := am_ (hbox); have aOB := gw_ hg; replace HB := bs_ hb; clear hb hbox hg; obtain ⟨uD, uC, y7, LQ, LC, KY, MF, Q9, OY, O5, IB, I9, tZ, sU, yA, KV, MJ, M4, KS, OU, R6, NZ, JS, JP⟩ := aBw kQ) | ((with_reducible refine aAa (f := 19) rfl ?_); refine aBh (some 15) Tryz.func19 #[.agg #[.int .i64 aH, .int .i64 aK, .int .i64 aJ, .int .i64 aI, .string bC, .string bB, .slice dN bG.length dQ], .int .i64 (wrap64 (a1 - (aD.size : Int)))] ?_; (with_reducible refine (eT.calls _ _ _ _ _ _ _ _ _ _ _ _ _ (cb_ iG HB) iD.out A6.out).mono ?_); rintro e w22 ⟨rfl, hb⟩; refine ⟨_, rfl, ?_⟩; replace kQ := aAt kQ hb; replace HB := bs_ hb; (try clear hb); obtain ⟨tC, sH, sQ, yO, yK, xO, yS, WX, WK, X0, OO, PG, sK, sV, sS, xM, yQ, xK, yM, WT, X4, WC, QD, OM⟩ := aBw kQ) | ((with_reducible refine aAa (f := 20) rfl ?_); refine aBh (some 21) Tryz.func20 #[.slice bZ aV.length cB, .int .i64 a0F] ?_; (with_reducible refine (eP.calls _ (eT.calls k) _ _ _ _ _ _ _ (cb_ iR HB) iZ.out MX.out).mono ?_); rintro e w24 ⟨rfl, hb⟩; refine ⟨_, rfl, ?_⟩; replace kQ := aAt kQ hb; replace HB := bs_ hb; (try clear hb); obtain ⟨uG, uH, vI, FP, F9, GN, FW, aLO, aR6, aL2, aDA, aGK, sI, tO, vQ, G8, GI, F6, FL, aOG, aL6, aOE, aEN, aCX⟩ := aBw kQ) | ((with_reducible refine aAa (f := 21) rfl ?_); refine aBh (some 27) Tryz.func21 #[.slice bP aM.length bM, .int .i64 a3C] ?_; (with_reducible refine (gV.calls _ ih_ _ _ _ _ _ _ _ (cb_ jE HB) jR.out A18.out).mono ?_); rintro e w26 ⟨rfl, hb⟩; refine ⟨_, rfl, ?_⟩; replace kQ := aAt kQ hb; replace HB := bs_ hb; (try clear hb)))
      go_ret
      exact ⟨er_, bb_⟩
     ·rw [if_neg c19] at H
      have U4 := decide_eq_false c19; clear c19; obtain rfl := Option.some.inj H
      go_enter Tryz.func6, Tryz.ntmps6
      go_wp2_with (first | ((with_reducible refine aAc (N := 2) rfl ?_); refine bx_ 2 #[.int .i64 aA, .string aD, .int .i64 aH, .int .i64 aK, .int .i64 aJ, .int .i64 aI, .string bC, .string bB, .slice dN bG.length dQ, .slice bZ aV.length cB, .int .i64 aW, .slice bP aM.length bM] 30 ?_; intro aNX hg w27 hbox hb; have kQ := am_ (hbox); have aOB := gw_ hg; replace HB := bs_ hb; clear hb hbox hg; obtain ⟨RF, OZ, O8, RO, OD, QV, OH, aKF, aMB, aL9, aIM, aFS, RS, RD, P9, RI, PT, S9, RA, aP0, aOX, aOO, aEW, aD9⟩ := aBw kQ) | ((with_reducible refine aAa (f := 19) rfl ?_); refine aBh (some 15) Tryz.func19 #[.agg #[.int .i64 aH, .int .i64 aK, .int .i64 aJ, .int .i64 aI, .string bC, .string bB, .slice dN bG.length dQ], .int .i64 (wrap64 (a1 - (aD.size : Int)))] ?_; (with_reducible refine (eT.calls _ _ _ _ _ _ _ _ _ _ _ _ _ (cb_ iG HB) iD.out A6.out).mono ?_); rintro e w29 ⟨rfl, hb⟩; refine ⟨_, rfl, ?_⟩; replace kQ := aAt kQ hb; replace HB := bs_ hb; (try clear hb); obtain ⟨UO, UL, VH, UX, VU, VG, VK, WW, UT, VB, Q0, RU, XG, UQ, WP, XH, VF, WO, UN, UW, VS, VX, R7, PZ⟩ := aBw kQ) | ((with_reducible refine aAa (f := 20) rfl ?_); refine aBh (some 21) Tryz.func20 #[.slice bZ aV.length cB, .int .i64 a0F] ?_; (with_reducible refine (eP.calls _ (eT.calls k) _ _ _ _ _ _ _ (cb_ iR HB) iZ.out MX.out).mono ?_); rintro e w31 ⟨rfl, hb⟩; refine ⟨_, rfl, ?_⟩; replace kQ := aAt kQ hb; replace HB := bs_ hb; (try clear hb); obtain ⟨M6, ME, ML, LU, LA, KO, LX, a8M, aBO, a9M, Y6, YF, LZ, M7, KF, MP, MM, KH, LY, a5W, a4Q, a6H, ZN, ZA⟩ := aBw kQ) | ((with_reducible refine aAa (f := 21) rfl ?_); refine aBh (some 27) Tryz.func21 #[.slice bP aM.length bM, .int .i64 a3C] ?_; (with_reducible refine (gV.calls _ ih_ _ _ _ _ _ _ _ (cb_ jE HB) jR.out A18.out).mono ?_); rintro e w33 ⟨rfl, hb⟩; refine ⟨_, rfl, ?_⟩; replace kQ := aAt kQ hb; replace HB := bs_ hb; (try clear hb)))
      go_ret
      exact ⟨er_, bb_⟩
def mV.f (k : Nat) (aA : ByteArray) (aD : Int) (aH : ByteArray) (aK aJ : Int) (aI bC : Int) (bB lQ : ByteArray) (aV fT : List S27) (iQ : Int) (fU : List S30) (jA : Int) (gK : List S136) (a1 : Int) : Option Int := if (wrap64 (a1 - (aA.size : Int))) < 0 then (some (-1)) else ((iC.f k aD aH aK aJ aI bC bB lQ aV fT iQ fU (wrap64 (a1 - (aA.size : Int)))).bind fun a9Y => (if a9Y < 0 then (some (-1)) else ((kX.f k jA gK a9Y).bind fun t196 => (if t196 < 0 then (some (-1)) else (some t196)))))
theorem mV.calls (k : Nat) (aA : ByteArray) (aD : Int) (aH : ByteArray) (aK aJ : Int) (aI bC : Int) (bB lQ : ByteArray) (bZ : Option Addr) (cB : Nat) (aV : List S27) (kG : Option Addr) (kE : Nat) (fT : List S27) (iQ : Int) (kH : Option Addr) (kF : Nat) (fU : List S30) (jA : Int) (kM : Option Addr) (kP : Nat) (gK : List S136) (a1 r : Int) (w : World) (jG : Kd.C k27 w bZ aV.length aV) (jH : aV.length ≤ cB) (yV : Kd.C k27 w kG fT.length fT) (AJ : fT.length ≤ kE) (zJ : Kd.C k30 w kH fU.length fU) (yY : fU.length ≤ kF) (AU : Kd.C aNa w kM gK.length gK) (zM : gK.length ≤ kP) (h : mV.f k aA aD aH aK aJ aI bC bB lQ aV fT iQ fU jA gK a1 = some r) :
  Calls Tryz.prog 32 #[.agg #[.string aA, .int .i64 aD, .string aH, .int .i64 aK, .int .i64 aJ, .int .i64 aI, .int .i64 bC, .string bB, .string lQ, .slice bZ aV.length cB, .slice kG fT.length kE, .int .i64 iQ, .slice kH fU.length kF, .int .i64 jA, .slice kM gK.length kP], .int .i64 a1] w fun e w' => e = .returned (.int .i64 r) ∧ Below w.heap.size w w' := by
 obtain ⟨bSW, b3H, b38⟩ := cJL
 have iR := am_ jG
 have iZ := am_ jH
 clear jG jH
 have zC := am_ yV
 have zK := am_ AJ
 clear yV AJ
 have AV := am_ zJ
 have zA := am_ yY
 clear zJ yY
 have IZ := am_ AU
 have J7 := am_ zM
 clear AU zM
 have HB := am_ (Below.refl w.heap.size w)
 have H : (if (wrap64 (a1 - (aA.size : Int))) < 0 then (some (-1)) else ((iC.f k aD aH aK aJ aI bC bB lQ aV fT iQ fU (wrap64 (a1 - (aA.size : Int)))).bind fun a9Y => (if a9Y < 0 then (some (-1)) else ((kX.f k jA gK a9Y).bind fun t196 => (if t196 < 0 then (some (-1)) else (some t196)))))) = some r := h
 clear h
 by_cases c3 : (wrap64 (a1 - (aA.size : Int))) < 0
 ·rw [if_pos c3] at H
  have fC := decide_eq_true c3; clear c3; obtain rfl := Option.some.inj H
  go_enter Tryz.func32, Tryz.ntmps32
  go_wp2_with (first | ((with_reducible refine aAc (N := 2) rfl ?_); refine bx_ 2 #[.string aA, .int .i64 aD, .string aH, .int .i64 aK, .int .i64 aJ, .int .i64 aI, .int .i64 bC, .string bB, .string lQ, .slice bZ aV.length cB, .slice kG fT.length kE, .int .i64 iQ, .slice kH fU.length kF, .int .i64 jA, .slice kM gK.length kP] 79 ?_; intro b80 hg w4 hbox hb; have tV := am_ (hbox); have bAO := gw_ hg; replace HB := bs_ hb; clear hb hbox hg; obtain ⟨IG, JR, JN, a6C, a2V, a2T, a9I, a2U, a2Y, a2W, VA, XF, cQZ, cY8, cNO, IK, IW, IX, aB2, a8V, aAC, a8O, aBX, aB7, a9Z, W9, XJ, cP3, cRL, cY3⟩ := aHm tV))
  go_ret
  exact ⟨er_, bb_⟩
 ·rw [if_neg c3] at H
  have fC := decide_eq_false c3; clear c3; replace H := aBp H; obtain ⟨a9Y, D6, H⟩ := H
  try dsimp only at H
  have A6 := am_ D6; clear D6
  by_cases c7 : a9Y < 0
  ·rw [if_pos c7] at H
   have iV := decide_eq_true c7; clear c7; obtain rfl := Option.some.inj H
   go_enter Tryz.func32, Tryz.ntmps32
   go_wp2_with (first | ((with_reducible refine aAc (N := 2) rfl ?_); refine bx_ 2 #[.string aA, .int .i64 aD, .string aH, .int .i64 aK, .int .i64 aJ, .int .i64 aI, .int .i64 bC, .string bB, .string lQ, .slice bZ aV.length cB, .slice kG fT.length kE, .int .i64 iQ, .slice kH fU.length kF, .int .i64 jA, .slice kM gK.length kP] 79 ?_; intro b80 hg w8 hbox hb; have tV := am_ (hbox); have bAO := gw_ hg; replace HB := bs_ hb; clear hb hbox hg; obtain ⟨mX, nC, xB, K7, JW, KA, IY, b8V, b9Z, b1C, aM7, aPL, bL2, bH4, bNN, nH, nG, x9, JG, JO, J6, II, b41, b2U, b5Q, aN6, aNK, bJ7, bJ3, bMO⟩ := aHm tV) | ((with_reducible refine aAa (f := 6) rfl ?_); refine aBh (some 15) Tryz.func6 #[.agg #[.int .i64 aD, .string aH, .int .i64 aK, .int .i64 aJ, .int .i64 aI, .int .i64 bC, .string bB, .string lQ, .slice bZ aV.length cB, .slice kG fT.length kE, .int .i64 iQ, .slice kH fU.length kF], .int .i64 (wrap64 (a1 - (aA.size : Int)))] ?_; (with_reducible refine (iC.calls _ _ _ _ _ _ _ _ _ _ _ _ _ _ _ _ _ _ _ _ _ _ (cb_ iR HB) iZ.out (cb_ zC HB) zK.out (cb_ AV HB) zA.out A6.out).mono ?_); rintro e w10 ⟨rfl, hb⟩; refine ⟨_, rfl, ?_⟩; replace tV := aAt tV hb; replace HB := bs_ hb; (try clear hb)))
   go_ret
   exact ⟨er_, bb_⟩
  ·rw [if_neg c7] at H
   have iV := decide_eq_false c7; clear c7; replace H := aBp H; obtain ⟨t196, N7, H⟩ := H
   try dsimp only at H
   have MX := am_ N7; clear N7
   by_cases c12 : t196 < 0
   ·rw [if_pos c12] at H
    have uK := decide_eq_true c12; clear c12; obtain rfl := Option.some.inj H
    go_enter Tryz.func32, Tryz.ntmps32
    go_wp2_with (first | ((with_reducible refine aAc (N := 2) rfl ?_); refine bx_ 2 #[.string aA, .int .i64 aD, .string aH, .int .i64 aK, .int .i64 aJ, .int .i64 aI, .int .i64 bC, .string bB, .string lQ, .slice bZ aV.length cB, .slice kG fT.length kE, .int .i64 iQ, .slice kH fU.length kF, .int .i64 jA, .slice kM gK.length kP] 79 ?_; intro b80 hg ZO hbox hb; have tV := am_ (hbox); have bAO := gw_ hg; replace HB := bs_ hb; clear hb hbox hg; obtain ⟨nZ, nV, rD, vX, vP, vZ, wB, D9, CG, BL, wS, wM, aF1, aHO, aC4, oG, nW, rA, wH, vJ, vG, vC, CL, BI, DJ, wX, wO, aE2, aDW, aDR⟩ := aHm tV) | ((with_reducible refine aAa (f := 6) rfl ?_); refine aBh (some 15) Tryz.func6 #[.agg #[.int .i64 aD, .string aH, .int .i64 aK, .int .i64 aJ, .int .i64 aI, .int .i64 bC, .string bB, .string lQ, .slice bZ aV.length cB, .slice kG fT.length kE, .int .i64 iQ, .slice kH fU.length kF], .int .i64 (wrap64 (a1 - (aA.size : Int)))] ?_; (with_reducible refine (iC.calls _ _ _ _ _ _ _ _ _ _ _ _ _ _ _ _ _ _ _ _ _ _ (cb_ iR HB) iZ.out (cb_ zC HB) zK.out (cb_ AV HB) zA.out A6.out).mono ?_); rintro e w15 ⟨rfl, hb⟩; refine ⟨_, rfl, ?_⟩; replace tV := aAt tV hb; replace HB := bs_ hb; (try clear hb); obtain ⟨rH, rO, tQ, vE, vW, vY, wG, LP, LW, MQ, EG, ES, cC3, c6Q, cGM, rE, rP, sP, vN, vM, vT, wF, KE, L8, KQ, E9, EQ, cGB, cE8, c7V⟩ := aHm tV) | ((with_reducible refine aAa (f := 45) rfl ?_); refine aBh (some 21) Tryz.func45 #[.agg #[.int .i64 jA, .slice kM gK.length kP], .int .i64 a9Y] ?_; (with_reducible refine (kX.calls _ _ _ _ _ _ _ _ (cb_ IZ HB) J7.out MX.out).mono ?_); rintro e w17 ⟨rfl, hb⟩; refine ⟨_, rfl, ?_⟩; replace tV := aAt tV hb; replace HB := bs_ hb; (try clear hb)))
    go_ret
    exact ⟨er_, bb_⟩
   ·rw [if_neg c12] at H
    have uK := decide_eq_false c12; clear c12; obtain rfl := Option.some.inj H
    go_enter Tryz.func32, Tryz.ntmps32
    go_wp2_with (first | ((with_reducible refine aAc (N := 2) rfl ?_); refine bx_ 2 #[.string aA, .int .i64 aD, .string aH, .int .i64 aK, .int .i64 aJ, .int .i64 aI, .int .i64 bC, .string bB, .string lQ, .slice bZ aV.length cB, .slice kG fT.length kE, .int .i64 iQ, .slice kH fU.length kF, .int .i64 jA, .slice kM gK.length kP] 79 ?_; intro b80 hg w18 hbox hb; have tV := am_ (hbox); have bAO := gw_ hg; replace HB := bs_ hb; clear hb hbox hg; obtain ⟨yC, yG, yI, CK, C8, DL, CZ, QE, PO, R8, IL, J2, b0U, b66, b1G, xX, xR, yF, BO, BS, CR, CO, O3, PP, PV, JD, J5, bAK, b98, bAM⟩ := aHm tV) | ((with_reducible refine aAa (f := 6) rfl ?_); refine aBh (some 15) Tryz.func6 #[.agg #[.int .i64 aD, .string aH, .int .i64 aK, .int .i64 aJ, .int .i64 aI, .int .i64 bC, .string bB, .string lQ, .slice bZ aV.length cB, .slice kG fT.length kE, .int .i64 iQ, .slice kH fU.length kF], .int .i64 (wrap64 (a1 - (aA.size : Int)))] ?_; (with_reducible refine (iC.calls _ _ _ _ _ _ _ _ _ _ _ _ _ _ _ _ _ _ _ _ _ _ (cb_ iR HB) iZ.out (cb_ zC HB) zK.out (cb_ AV HB) zA.out A6.out).mono ?_); rintro e w20 ⟨rfl, hb⟩; refine ⟨_, rfl, ?_⟩; replace tV := aAt tV hb; replace HB := bs_ hb; (try clear hb); obtain ⟨uD, uC, y7, LQ, LC, KY, MF, Q9, OY, O5, IB, I9, aFY, aDX, aGD, tZ, sU, yA, KV, MJ, M4, KS, OU, R6, NZ, JS, JP, aCK, aEP, aE5⟩ := aHm tV) | ((with_reducible refine aAa (f := 45) rfl ?_); refine aBh (some 21) Tryz.func45 #[.agg #[.int .i64 jA, .slice kM gK.length kP], .int .i64 a9Y] ?_; (with_reducible refine (kX.calls _ _ _ _ _ _ _ _ (cb_ IZ HB) J7.out MX.out).mono ?_); rintro e w22 ⟨rfl, hb⟩; refine ⟨_, rfl, ?_⟩; replace tV := aAt tV hb; replace HB := bs_ hb; (try clear hb)))
    go_ret
    exact ⟨er_, bb_⟩

def gF.l0 : Nat → List S79 → Int → Int → Option Int
 | 0, _, _, _ => none
 | k + 1, x0, x1, x5 => if x5 < (x0.length : Int) then (if 0 ≤ x5 then ((mV.f k ((bH x0 x5).f0) ((bH x0 x5).f1.f0) ((bH x0 x5).f1.f1) ((bH x0 x5).f1.f2.f0) ((bH x0 x5).f1.f2.f1) ((bH x0 x5).f1.f2.f2.f0) ((bH x0 x5).f1.f2.f2.f1) ((bH x0 x5).f1.f2.f2.f2) ((bH x0 x5).f1.f2.f3) ((bH x0 x5).f1.f2.f4) ((bH x0 x5).f1.f3) ((bH x0 x5).f1.f4) ((bH x0 x5).f1.f5) ((bH x0 x5).f2.f0) ((bH x0 x5).f2.f1) x1).bind fun t198 => (if t198 < 0 then (some (-1)) else (gF.l0 k x0 t198 (wrap64 (x5 + 1))))) else (none)) else (some x1)
def gF.f (k : Nat) (l0 : List S79) (a1 : Int) : Option Int := if (wrap64 (a1 - (l0.length : Int))) < 0 then (some (-1)) else (gF.l0 k l0 (wrap64 (a1 - (l0.length : Int))) 0)
theorem gF.calls (k : Nat) (A0 : Option Addr) (c0 : Nat) (l0 : List S79) (a1 r : Int) (w : World) (hr0 : Kd.C k79 w A0 l0.length l0) (hc0 : l0.length ≤ c0) (h : gF.f k l0 a1 = some r) :
  Calls Tryz.prog 13 #[.slice A0 l0.length c0, .int .i64 a1] w fun e w' => e = .returned (.int .i64 r) ∧ Below w.heap.size w w' := by
 have bSW := Tryz.underlying79
 have jY := am_ hr0
 have oQ := am_ hc0
 clear hr0 hc0
 have HB := am_ (Below.refl w.heap.size w)
 have H : (if (wrap64 (a1 - (l0.length : Int))) < 0 then (some (-1)) else (gF.l0 k l0 (wrap64 (a1 - (l0.length : Int))) 0)) = some r := h
 clear h
 by_cases c3 : (wrap64 (a1 - (l0.length : Int))) < 0
 ·rw [if_pos c3] at H
  have fC := decide_eq_true c3; clear c3; obtain rfl := Option.some.inj H
  go_enter Tryz.func13, Tryz.ntmps13
  go_wp2
  go_ret
  exact ⟨er_, bb_⟩
 ·rw [if_neg c3] at H
  have fC := decide_eq_false c3; clear c3; have H' := am_ H; clear H
  go_enter Tryz.func13, Tryz.ntmps13
  go_wp2
  go_loopg [1, 5] k (fun kq v1 v5 w' => ∃ (nL : Int) (aC : Int), v1 = .int .i64 nL ∧ v5 = .int .i64 aC ∧ Aside0 (gF.l0 kq l0 nL aC = some r) ∧ Aside0 (kq ≤ k) ∧ Aside0 (Below w.heap.size w w'))
  case atStart => exact ⟨(wrap64 (a1 - (l0.length : Int))), (0), rs_, rs_, H', ⟨Nat.le_refl _⟩, ⟨bb_⟩⟩
  case round =>
   clear H'; (try clear c1); (try clear p2); (try clear c3); (try clear fC); obtain ⟨nL, aC, rfl, rfl, HA, jK, HB⟩ := hrel
   cases gk with
   | zero => exact absurd HA.out (by simp [gF.l0])
   | succ k1 =>
    have H := HA.out; clear HA; simp only [gF.l0] at H
    by_cases c4 : aC < (l0.length : Int)
    ·rw [if_pos c4] at H
     have iB := decide_eq_true c4; clear c4
     by_cases c5 : 0 ≤ aC
     ·rw [if_pos c5] at H
      have pV := decide_eq_true c5; clear c5; replace H := aBp H; obtain ⟨t198, D6, H⟩ := H
      try dsimp only at H
      have A6 := am_ D6; clear D6; have gY := am_ H; clear H; (have c1G : 0 ≤ (aC : Int) := oa_); (have bYH : aC < (l0.length : Int) := oa_); obtain ⟨d7P, b62, b9A, aLC, aN1, aWG, aQV, aU5, aN9, e197, aK8, aUT, aWY, aV3, aR8, aNP, aXD, aKL, aUC, aU0, aI3, aHD, aHF, aEK, aEZ, aN4, aQ1, aHN, aFP, aEG, aGO, aI7, aCH⟩ := b6P jY.out aC c1G bYH; cases e197; obtain ⟨aK8, aUT, aWY, aV3, aR8, aNP, aXD, aKL, aUC, aU0, aI3, aHD, aHF, aEK, aEZ⟩ := aKe HB aK8 aUT aWY aV3 aR8 aNP aXD aKL aUC aU0 aI3 aHD aHF aEK aEZ; have aLE := am_ aQ1; have aOL := am_ aN4; clear aQ1 aN4; have aGH := am_ aFP; have aCS := am_ aHN; clear aFP aHN; have aDG := am_ aGO; have aCU := am_ aEG; clear aGO aEG; have aDS := am_ aCH; have aD8 := am_ aI7; clear aCH aI7; replace c1G := eq_true c1G; replace bYH := eq_true bYH; have H := gY.out; clear gY
      by_cases c7 : t198 < 0
      ·rw [if_pos c7] at H
       have iV := decide_eq_true c7; clear c7; obtain rfl := Option.some.inj H
       go_wp2_with (first | ((with_reducible refine aAa (f := 32) rfl ?_); refine aBh (some 23) Tryz.func32 #[.agg #[.string ((bH l0 aC).f0), .int .i64 ((bH l0 aC).f1.f0), .string ((bH l0 aC).f1.f1), .int .i64 ((bH l0 aC).f1.f2.f0), .int .i64 ((bH l0 aC).f1.f2.f1), .int .i64 ((bH l0 aC).f1.f2.f2.f0), .int .i64 ((bH l0 aC).f1.f2.f2.f1), .string ((bH l0 aC).f1.f2.f2.f2), .string ((bH l0 aC).f1.f2.f3), .slice b62 ((bH l0 aC).f1.f2.f4).length b9A, .slice aLC ((bH l0 aC).f1.f3).length aN1, .int .i64 ((bH l0 aC).f1.f4), .slice aWG ((bH l0 aC).f1.f5).length aQV, .int .i64 ((bH l0 aC).f2.f0), .slice aU5 ((bH l0 aC).f2.f1).length aN9], .int .i64 nL] ?_; (with_reducible refine (mV.calls _ _ _ _ _ _ _ _ _ _ _ _ _ _ _ _ _ _ _ _ _ _ _ _ _ _ _ (cb_ aLE HB) aOL.out (cb_ aGH HB) aCS.out (cb_ aDG HB) aCU.out (cb_ aDS HB) aD8.out A6.out).mono ?_); rintro e w8 ⟨rfl, hb⟩; refine ⟨_, rfl, ?_⟩; replace HB := bs_ hb; (try clear hb)))
       go_ret
       exact ⟨er_, bb_⟩
      ·rw [if_neg c7] at H
       have iV := decide_eq_false c7; clear c7; have H' := am_ H; clear H
       go_wp2_with (first | ((with_reducible refine aAa (f := 32) rfl ?_); refine aBh (some 23) Tryz.func32 #[.agg #[.string ((bH l0 aC).f0), .int .i64 ((bH l0 aC).f1.f0), .string ((bH l0 aC).f1.f1), .int .i64 ((bH l0 aC).f1.f2.f0), .int .i64 ((bH l0 aC).f1.f2.f1), .int .i64 ((bH l0 aC).f1.f2.f2.f0), .int .i64 ((bH l0 aC).f1.f2.f2.f1), .string ((bH l0 aC).f1.f2.f2.f2), .string ((bH l0 aC).f1.f2.f3), .slice b62 ((bH l0 aC).f1.f2.f4).length b9A, .slice aLC ((bH l0 aC).f1.f3).length aN1, .int .i64 ((bH l0 aC).f1.f4), .slice aWG ((bH l0 aC).f1.f5).length aQV, .int .i64 ((bH l0 aC).f2.f0), .slice aU5 ((bH l0 aC).f2.f1).length aN9], .int .i64 nL] ?_; (with_reducible refine (mV.calls _ _ _ _ _ _ _ _ _ _ _ _ _ _ _ _ _ _ _ _ _ _ _ _ _ _ _ (cb_ aLE HB) aOL.out (cb_ aGH HB) aCS.out (cb_ aDG HB) aCU.out (cb_ aDS HB) aD8.out A6.out).mono ?_); rintro e w8 ⟨rfl, hb⟩; refine ⟨_, rfl, ?_⟩; replace HB := bs_ hb; (try clear hb)))
       go_roundg k1
       case measure => have := jK.out; omega
       case rel => exact ⟨(t198), (wrap64 (aC + 1)), rs_, rs_, H', ⟨by have := jK.out; omega⟩, ⟨bb_⟩⟩
     ·rw [if_neg c5] at H
      exact nn_ H
    ·rw [if_neg c4] at H
     have iB := decide_eq_false c4; clear c4; obtain rfl := Option.some.inj H
     go_wp2
     go_ret
     exact ⟨er_, bb_⟩

def gL.l0 : Nat → List S68 → ByteArray → Int → Option (Int × (List S126) × Bool)
 | 0, _, _, _ => none
 | k + 1, x0, x1, x6 => if x6 < (x0.length : Int) then (if 0 ≤ x6 then (if ((dE x0 x6).f0).toList = x1.toList then (some ((dE x0 x6).f1.f0, (dE x0 x6).f1.f1, true)) else (gL.l0 k x0 x1 (wrap64 (x6 + 1)))) else (none)) else (some (0, ([] : List S126), false))
def gL.f (k : Nat) (l0 : List S68) (a1 : ByteArray) : Option (Int × (List S126) × Bool) := gL.l0 k l0 a1 0
theorem cIH {B : Nat} {w W : World} (h : Below B w W := by repeat (first | (with_reducible first | exact HB.out | apply aAi | apply aAo | apply aAm | refine aAk ?_ c7R.out) | exact HB.out)) : Below B w W := h
theorem gL.calls (k : Nat) (P0_ : Nat → Prop) (A0 : Option Addr) (c0 : Nat) (l0 : List S68) (a1 : ByteArray) (r1 : Int) (r2 : List S126) (r3 : Bool) (w : World) (hs0 : Kd.V BC 68 w w.heap.size (fun k_ => P0_ k_) (.slice A0 l0.length c0) l0) (h : gL.f k l0 a1 = some (r1, r2, r3)) :
  Calls Tryz.prog 33 #[.slice A0 l0.length c0, .string a1] w fun e w' => ∃ v1_ : Value, e = .returned (.tuple #[.agg #[.int .i64 r1, v1_], .bool r3]) ∧ Kd.V jU 126 w' w.heap.size (fun k_ => (P0_ k_ ∨ w.heap.size ≤ k_)) v1_ r2 ∧ Below w.heap.size w w' := by
 have NT := Tryz.underlying66
 have HO0 := am_ (show Kd.V BC 68 w w.heap.size (fun k_ => (P0_ k_ ∨ w.heap.size ≤ k_)) (.slice A0 l0.length c0) l0 from Kd.aEa hs0 (fun k_ hk => .inl hk))
 have HB := am_ (Below.refl w.heap.size w)
 have H : (gL.l0 k l0 a1 0) = some (r1, r2, r3) := h
 clear h
 have H' := am_ H
 clear H
 go_enter Tryz.func33, Tryz.ntmps33
 go_wp2_with (first | ((with_reducible refine aAc (N := 4) rfl ?_); refine bx_ 4 #[.int .i64 0, .slice none 0 0] 66 ?_; intro a1R hg w3 hbox hb; have YX := am_ (hbox); have c7R := gw_ hg; replace HO0 := am_ (Kd.aDq (Kd.aEz (v3_ HO0.out) a1R (Nat.le_of_eq hg.symm)) hb); replace HB := bs_ hb; clear hb hbox hg))
 go_loopg [6] k (fun kq v6 w' => ∃ (zX : Int) (T9 : Int), v6 = .int .i64 zX ∧ Aside0 (gL.l0 kq l0 a1 zX = some (r1, r2, r3)) ∧ Aside0 (kq ≤ k) ∧ Aside0 (Kd.V BC 68 w' w.heap.size (fun k_ => (P0_ k_ ∨ w.heap.size ≤ k_) ∧ k_ ≠ a1R) (.slice A0 l0.length c0) l0) ∧ Aside0 (w'.heap[a1R]? = some (.cells #[.int .i64 T9, (.slice none 0 0)] 66 (0, 0))) ∧ Aside0 (Below w.heap.size w w'))
 case atStart => exact ⟨(0), (0), rs_, H', ⟨Nat.le_refl _⟩, ⟨by (with_reducible repeat (first | apply Kd.aHq | apply Kd.aHr | apply Kd.aHx)); exact HO0.out⟩, ⟨aBx YX.out⟩, ⟨bb_⟩⟩
 case round =>
  clear H'; (try clear p2); (try clear c3); obtain ⟨zX, T9, rfl, HA, jK, aJB, YX, HB⟩ := hrel
  cases gk with
  | zero => exact absurd HA.out (by simp [gL.l0])
  | succ k1 =>
   have H := HA.out; clear HA; simp only [gL.l0] at H
   by_cases c4 : zX < (l0.length : Int)
   ·rw [if_pos c4] at H
    have iB := decide_eq_true c4; clear c4
    by_cases c5 : 0 ≤ zX
    ·rw [if_pos c5] at H
     have pV := decide_eq_true c5; clear c5; have gY := am_ H; clear H; (have bKQ : 0 ≤ (zX : Int) := oa_); (have bM7 : zX < (l0.length : Int) := oa_); obtain ⟨c5T, bSX, bY4, d3Y, cRK, cYF, aQ6, aSW, aS6⟩ := DW (Kd.aGi aJB.out).2.2 zX bKQ bM7; cases d3Y; (obtain ⟨d8J, bZL, bVO, b0S⟩ := Kd.aVt aJB.out z68 zX bKQ (by first | exact bM7 | exact oa_ | (have e_ := (Kd.aGi aJB.out).1; omega))); obtain ⟨d1U, cYG, rfl, a2L, a99⟩ := TY bVO; have VD := b0S 2 _ rfl; rw [aAg _ _ 2 (by omega)] at VD; replace VD := Option.some.inj (VD.symm.trans aQ6); injection VD with aHR b5L aH8; rw [aHR] at a99; rw [aH8] at a2L; have d1A := am_ (show Kd.V jU 126 _ w.heap.size _ _ ((dE l0 zX).f1.f1) from Kd.aSp a2L a99); clear aHR b5L aH8 a99 a2L; clear b0S bZL; have cU5 := am_ aS6; have cUP := am_ aSW; clear aS6 aSW; replace bKQ := eq_true bKQ; replace bM7 := eq_true bM7; have H := gY.out; clear gY
     by_cases c6 : ((dE l0 zX).f0).toList = a1.toList
     ·rw [if_pos c6] at H
      have mY : (((dE l0 zX).f0).toList == a1.toList) = true := beq_iff_eq.mpr c6; have aK0 : (((dE l0 zX).f0).toList != a1.toList) = false := bne_eq_false_iff_eq.mpr c6; clear c6; simp only [Option.some.injEq, Prod.mk.injEq] at H; obtain ⟨rfl, rfl, rfl⟩ := H; (have bLJ : 0 ≤ (zX : Int) := oa_); (have bHC : zX < (l0.length : Int) := oa_); obtain ⟨cIU, d4M, d68, d2T, cZB, cTG, aSB, aY6, aLQ⟩ := DW (Kd.aGi aJB.out).2.2 zX bLJ bHC; obtain rfl : c5T = cIU := (by injection d2T); (obtain ⟨dBA, c1C, bUX, b2B⟩ := Kd.aVt aJB.out z68 zX bLJ (by first | exact bHC | exact oa_ | (have e_ := (Kd.aGi aJB.out).1; omega))); obtain ⟨cT2, cTZ, rfl, aB8, a6L⟩ := TY bUX; have WJ := b2B 2 _ rfl; rw [aAg _ _ 2 (by omega)] at WJ; replace WJ := Option.some.inj (WJ.symm.trans aSB); injection WJ with aHR b5L aH8; rw [aHR] at a6L; rw [aH8] at aB8; have bDL := am_ (show Kd.V jU 126 _ w.heap.size _ _ ((dE l0 zX).f1.f1) from Kd.aSp aB8 a6L); clear aHR b5L aH8 a6L aB8; clear b2B c1C; have d0W := am_ aLQ; have cWO := am_ aY6; clear aLQ aY6; replace bLJ := eq_true bLJ; replace bHC := eq_true bHC; have rW := Option.some.inj (aQ6.symm.trans aSB); injection rW with rW SI TD; subst rW; subst TD; clear SI; obtain ⟨uN, uU, uY, uP⟩ := b2_ YX
      go_wp2
      refine bodyPost_ret (aGg rfl _ _ a1R 66 #[.int .i64 ((dE l0 zX).f1.f0), .slice bSX ((dE l0 zX).f1.f1).length bY4] (0, 0) _ rfl (aWo (aBx YX.out)) Tryz.underlying66 rfl (by kernel_rfl)) rfl ?_; (exact ⟨_, rr_, by (with_reducible repeat (first | apply Kd.aHq | apply Kd.aHr | apply Kd.aHx)); exact Kd.aEa (aYs (Kd.aEa bDL.out (fun k_ hk => (⟨hk, hk.2⟩ : _ ∧ k_ ≠ a1R))) (fun _ hk => hk.2)) (fun _ hk => hk.1.1), cIH⟩)
     ·rw [if_neg c6] at H
      have mY : (((dE l0 zX).f0).toList == a1.toList) = false := beq_eq_false_iff_ne.mpr c6; have aK0 : (((dE l0 zX).f0).toList != a1.toList) = true := bne_iff_ne.mpr c6; have H' := am_ H; clear H
      go_wp2
      go_roundg k1
      case measure => have := jK.out; omega
      case rel => exact ⟨(wrap64 (zX + 1)), (T9), rs_, H', ⟨by have := jK.out; omega⟩, ⟨by (with_reducible repeat (first | apply Kd.aHq | apply Kd.aHr | apply Kd.aHx)); exact aJB.out⟩, ⟨aBx YX.out⟩, ⟨bb_⟩⟩
    ·rw [if_neg c5] at H
     exact nn_ H
   ·rw [if_neg c4] at H
    have iB := decide_eq_false c4; clear c4; simp only [Option.some.injEq, Prod.mk.injEq] at H; obtain ⟨rfl, rfl, rfl⟩ := H; obtain ⟨qI, qG, qF, qH⟩ := b2_ YX
    go_wp2
    refine bodyPost_ret (aGg rfl _ _ a1R 66 #[.int .i64 0, .slice none 0 0] (0, 0) _ rfl (aWo (aBx YX.out)) Tryz.underlying66 rfl (by kernel_rfl)) rfl ?_; (exact ⟨_, rr_, Kd.aOg _ _ _ _ _, cIH⟩)

def jP.f (aA aD : Int) (aH aK : Int) (aJ aI : ByteArray) (aQ : List S39) : Option Bool := if aA = 0 then (if aD = 0 then (if (aH == 0 && (aK == 0 && (aJ.toList == ([] : List UInt8)))) = true then (if aI.toList = ([] : List UInt8) then (some ((aQ.length : Int) == 0)) else (some false)) else (some false)) else (some false)) else (some false)
theorem jP.calls (aA aD : Int) (aH aK : Int) (aJ aI : ByteArray) (dY : Option Addr) (dR : Nat) (aQ : List S39) (r : Bool) (w : World) (gH : Kd.C jX w dY aQ.length aQ) (gI : aQ.length ≤ dR) (h : jP.f aA aD aH aK aJ aI aQ = some r) :
  Calls Tryz.prog 67 #[.agg #[.int .i64 aA, .int .i64 aD, .int .i64 aH, .int .i64 aK, .string aJ, .string aI, .slice dY aQ.length dR]] w fun e w' => e = .returned (.bool r) ∧ Below w.heap.size w w' := by
 obtain ⟨zH, QU⟩ := aSC
 have jZ := am_ gH
 have lG := am_ gI
 clear gH gI
 have HB := am_ (Below.refl w.heap.size w)
 have H : (if aA = 0 then (if aD = 0 then (if (aH == 0 && (aK == 0 && (aJ.toList == ([] : List UInt8)))) = true then (if aI.toList = ([] : List UInt8) then (some ((aQ.length : Int) == 0)) else (some false)) else (some false)) else (some false)) else (some false)) = some r := h
 clear h
 by_cases c2 : aA = 0
 ·rw [if_pos c2] at H
  have qD : (aA == 0) = true := beq_iff_eq.mpr c2; have JA : (aA != 0) = false := bne_eq_false_iff_eq.mpr c2; clear c2
  by_cases c3 : aD = 0
  ·rw [if_pos c3] at H
   have fC : (aD == 0) = true := beq_iff_eq.mpr c3; have lI : (aD != 0) = false := bne_eq_false_iff_eq.mpr c3; clear c3
   by_cases c4 : (aH == 0 && (aK == 0 && (aJ.toList == ([] : List UInt8)))) = true
   ·rw [if_pos c4] at H
    have iB : (aH == 0 && (aK == 0 && (aJ.toList == ([] : List UInt8)))) = true := c4; (try (have d32 : (aH == 0 && (aK == 0 && (aJ.toList.isEmpty))) = true := by simpa using iB)); (try (have a0A : decide (aH = 0 && (aK == 0 && (aJ.toList == ([] : List UInt8)))) = true := by simpa using c4)); (try (have d2H : (aH == 0 && (aK == 0 && (aJ.toList == ([] : List UInt8)))) = true := by simpa using c4)); clear c4
    by_cases c5 : aI.toList = ([] : List UInt8)
    ·rw [if_pos c5] at H
     have pV : (aI.toList == ([] : List UInt8)) = true := beq_iff_eq.mpr c5; have NR : (aI.toList != ([] : List UInt8)) = false := bne_eq_false_iff_eq.mpr c5; clear c5; obtain rfl := Option.some.inj H
     go_enter Tryz.func67, Tryz.ntmps67
     go_wp2_with (first | ((with_reducible refine aAc (N := 1) rfl ?_); (try (refine aAn (by rfl) ?_; dsimp only)); refine bx_ 1 #[.int .i64 aA, .int .i64 aD, .int .i64 aH, .int .i64 aK, .string aJ, .string aI, .slice dY aQ.length dR] 39 ?_; intro aKC hg w6 hbox hb; have PQ := am_ (hbox); have aT5 := gw_ hg; replace HB := bs_ hb; clear hb hbox hg; obtain ⟨uN, uU, FR, aBK, a8L, a9S, a6E, uY, uP, FJ, aAQ, aAS, a7N, a2Z⟩ := b7_ PQ))
     go_ret
     exact ⟨er_, bb_⟩
    ·rw [if_neg c5] at H
     have pV : (aI.toList == ([] : List UInt8)) = false := beq_eq_false_iff_ne.mpr c5; have NR : (aI.toList != ([] : List UInt8)) = true := bne_iff_ne.mpr c5; obtain rfl := Option.some.inj H
     go_enter Tryz.func67, Tryz.ntmps67
     go_wp2_with (first | ((with_reducible refine aAc (N := 1) rfl ?_); (try (refine aAn (by rfl) ?_; dsimp only)); refine bx_ 1 #[.int .i64 aA, .int .i64 aD, .int .i64 aH, .int .i64 aK, .string aJ, .string aI, .slice dY aQ.length dR] 39 ?_; intro aKC hg w8 hbox hb; have PQ := am_ (hbox); have aT5 := gw_ hg; replace HB := bs_ hb; clear hb hbox hg; obtain ⟨mX, nC, xB, K7, JW, KA, IY, nH, nG, x9, JG, JO, J6, II⟩ := b7_ PQ))
     go_ret
     exact ⟨er_, bb_⟩
   ·rw [if_neg c4] at H
    (have iB : (aH == 0 && (aK == 0 && (aJ.toList == ([] : List UInt8)))) = false := by simpa using c4); (try (have d32 : (aH == 0 && (aK == 0 && (aJ.toList.isEmpty))) = false := by simpa using iB)); (try (have a0A : decide (aH = 0 && (aK == 0 && (aJ.toList == ([] : List UInt8)))) = false := by simpa using c4)); (try (have d2H : (aH == 0 && (aK == 0 && (aJ.toList == ([] : List UInt8)))) = false := by simpa using c4)); (try (have dD6 : ¬ (aH = 0 && (aK == 0 && (aJ.toList == ([] : List UInt8)))) := by simpa using c4)); clear c4; obtain rfl := Option.some.inj H
    go_enter Tryz.func67, Tryz.ntmps67
    go_wp2_with (first | ((with_reducible refine aAc (N := 1) rfl ?_); (try (refine aAn (by rfl) ?_; dsimp only)); refine bx_ 1 #[.int .i64 aA, .int .i64 aD, .int .i64 aH, .int .i64 aK, .string aJ, .string aI, .slice dY aQ.length dR] 39 ?_; intro aKC hg w10 hbox hb; have PQ := am_ (hbox); have aT5 := gw_ hg; replace HB := bs_ hb; clear hb hbox hg; obtain ⟨CX, DR, KG, LK, LJ, LV, KW, BV, D5, KN, MN, KX, LG, L6⟩ := b7_ PQ))
    go_ret
    exact ⟨er_, bb_⟩
  ·rw [if_neg c3] at H
   have fC : (aD == 0) = false := beq_eq_false_iff_ne.mpr c3; have lI : (aD != 0) = true := bne_iff_ne.mpr c3; obtain rfl := Option.some.inj H
   go_enter Tryz.func67, Tryz.ntmps67
   go_wp2_with (first | ((with_reducible refine aAc (N := 1) rfl ?_); (try (refine aAn (by rfl) ?_; dsimp only)); refine bx_ 1 #[.int .i64 aA, .int .i64 aD, .int .i64 aH, .int .i64 aK, .string aJ, .string aI, .slice dY aQ.length dR] 39 ?_; intro aKC hg w12 hbox hb; have PQ := am_ (hbox); have aT5 := gw_ hg; replace HB := bs_ hb; clear hb hbox hg; obtain ⟨MU, KT, a9N, a3W, aAV, a88, a8F, LB, KJ, aBT, a6Z, a9W, a2F, a6K⟩ := b7_ PQ))
   go_ret
   exact ⟨er_, bb_⟩
 ·rw [if_neg c2] at H
  have qD : (aA == 0) = false := beq_eq_false_iff_ne.mpr c2; have JA : (aA != 0) = true := bne_iff_ne.mpr c2; obtain rfl := Option.some.inj H
  go_enter Tryz.func67, Tryz.ntmps67
  go_wp2_with (first | ((with_reducible refine aAc (N := 1) rfl ?_); (try (refine aAn (by rfl) ?_; dsimp only)); refine bx_ 1 #[.int .i64 aA, .int .i64 aD, .int .i64 aH, .int .i64 aK, .string aJ, .string aI, .slice dY aQ.length dR] 39 ?_; intro aKC hg w14 hbox hb; have PQ := am_ (hbox); have aT5 := gw_ hg; replace HB := bs_ hb; clear hb hbox hg; obtain ⟨pX, pU, rQ, BZ, CW, BN, DK, pJ, pR, rR, BJ, DC, BH, CQ⟩ := b7_ PQ))
  go_ret
  exact ⟨er_, bb_⟩

def bN.f (a0 a1 a2 : Int) : Option Bool := if a0 ≥ a1 then (some (decide (a0 ≤ a2))) else (some false)
theorem bN.calls (a0 a1 a2 : Int) (r : Bool) (w : World) (h : bN.f a0 a1 a2 = some r) :
  Calls Tryz.prog 50 #[.int .i64 a0, .int .i64 a1, .int .i64 a2] w fun e w' => e = .returned (.bool r) ∧ aAu w w' := by
 have H : (if a0 ≥ a1 then (some (decide (a0 ≤ a2))) else (some false)) = some r := h
 clear h
 by_cases c4 : a0 ≥ a1
 ·rw [if_pos c4] at H
  have iB := decide_eq_true c4; clear c4; obtain rfl := Option.some.inj H
  go_enter Tryz.func50, Tryz.ntmps50
  go_wp2
  go_ret
  (exact ⟨by first | rfl | (simp; done) | (simp [*]; done), by repeat (first | exact aAu.refl _ | apply aAu.step)⟩)
 ·rw [if_neg c4] at H
  have iB := decide_eq_false c4; clear c4; obtain rfl := Option.some.inj H
  go_enter Tryz.func50, Tryz.ntmps50
  go_wp2
  go_ret
  (exact ⟨by first | rfl | (simp; done) | (simp [*]; done), by repeat (first | exact aAu.refl _ | apply aAu.step)⟩)

def iT.f (a0 : Int) : Option Int := (bN.f a0 0 6).bind fun t203 => (if t203 = true then ((some (([0, 1, 1, 2, 2, 1, 1] : List Int) : List Int)).bind fun a09 => (if 0 ≤ a0 then (if a0 < (a09.length : Int) then (some (rd a09 a0)) else (none)) else (none))) else (some (-1)))
theorem iT.calls (a0 r : Int) (w : World) (h : iT.f a0 = some r) :
  Calls Tryz.prog 68 #[.int .i64 a0] w fun e w' => e = .returned (.int .i64 r) ∧ Below w.heap.size w w' := by
 have HB := am_ (Below.refl w.heap.size w)
 have H : ((bN.f a0 0 6).bind fun t203 => (if t203 = true then ((some (([0, 1, 1, 2, 2, 1, 1] : List Int) : List Int)).bind fun a09 => (if 0 ≤ a0 then (if a0 < (a09.length : Int) then (some (rd a09 a0)) else (none)) else (none))) else (some (-1)))) = some r := h
 clear h
 replace H := aBp H
 obtain ⟨t203, BB, H⟩ := H
 try dsimp only at H
 have A2 := am_ BB
 clear BB
 by_cases c3 : t203 = true
 ·subst c3
  rw [if_pos rfl] at H; obtain ⟨a09, aDV⟩ : ∃ y_ : List Int, y_ = (([0, 1, 1, 2, 2, 1, 1] : List Int)) := ⟨_, rfl⟩; (replace H : (if 0 ≤ a0 then (if a0 < (a09.length : Int) then (some (rd a09 a0)) else (none)) else (none)) = some r := by first | (rw [aDV]; with_reducible exact H) | (have jC := (Option.bind_some _ _).symm.trans H; rw [aDV]; with_reducible exact jC) | (have jC := (Option.bind_some _ _).symm.trans H; with_reducible exact jC) | with_reducible exact H | (rw [aDV]; exact H) | exact H); have bQW := am_ aDV; clear aDV
  by_cases c4 : 0 ≤ a0
  ·rw [if_pos c4] at H
   have iB := decide_eq_true c4; clear c4
   by_cases c5 : a0 < (a09.length : Int)
   ·rw [if_pos c5] at H
    have pV := decide_eq_true c5; clear c5; obtain rfl := Option.some.inj H
    go_enter Tryz.func68, Tryz.ntmps68
    go_wp2_with (first | ((with_reducible refine aAa (f := 50) rfl ?_); refine aBh (some 4) Tryz.func50 #[.int .i64 a0, .int .i64 0, .int .i64 6] ?_; (with_reducible refine (bN.calls _ _ _ _ _ A2.out).mono ?_); rintro e w' ⟨rfl, ⟨nd, rfl⟩⟩; refine ⟨_, rfl, ?_⟩) | ((with_reducible refine aAc (N := 6) rfl ?_); refine Kd.aPq (Kd.int .i64) _ 3 ?hg (N := 6) ?hd (xs := ([0, 1, 1, 2, 2, 1, 1] : List Int)) (inner := [.int .i64 0, .int .i64 1, .int .i64 1, .int .i64 2, .int .i64 2, .int .i64 1, .int .i64 1]) (ok := fun _ => True) (okp := fun _ => True) ?hr ?hp (fun _ hk => hk) trivial (Below.refl _ _) (Nat.le_refl _) (by simp) ?_; (case hd => rfl); (case hg => rfl); (case hr => first | (go_simp; done) | (go_simp; rfl)); (case hp => exact (aBt.one (show Kd.M (Kd.int .i64) _ _ _ 0 [.int .i64 0] from rfl) (aBt.one (show Kd.M (Kd.int .i64) _ _ _ 1 [.int .i64 1] from rfl) (aBt.one (show Kd.M (Kd.int .i64) _ _ _ 1 [.int .i64 1] from rfl) (aBt.one (show Kd.M (Kd.int .i64) _ _ _ 2 [.int .i64 2] from rfl) (aBt.one (show Kd.M (Kd.int .i64) _ _ _ 2 [.int .i64 2] from rfl) (aBt.one (show Kd.M (Kd.int .i64) _ _ _ 1 [.int .i64 1] from rfl) (aBt.one (show Kd.M (Kd.int .i64) _ _ _ 1 [.int .i64 1] from rfl) (aBt.none _ _))))))))); intro dBU w6 ho7 hb DZ j4; clear DZ j4; (first | rw [← bQW.out] at ho7 | (simp only [Int.reduceToNat] at ho7; rw [← bQW.out] at ho7)); have bQR := am_ (Kd.aBc ho7 (aAj bb_)); replace HB := bs_ hb; clear hb ho7; obtain ⟨Ao8, co8, eo8⟩ := Kd.aBj bQR.out; subst eo8; have bV3 : 0 ≤ (a0 : Int) := oa_; have bS4 : a0 < (a09.length : Int) := oa_; obtain ⟨d9A, e207, cNI⟩ := Kd.aCe (Kd.aAr bQR.out).2.2 a0 bV3 bS4; cases e207; replace bV3 := eq_true bV3; replace bS4 := eq_true bS4))
    go_ret
    exact ⟨er_, bb_⟩
   ·rw [if_neg c5] at H
    exact nn_ H
  ·rw [if_neg c4] at H
   exact nn_ H
 ·replace c3 := Bool.eq_false_iff.mpr c3
  subst c3; replace H := aZf H; obtain rfl := Option.some.inj H
  go_enter Tryz.func68, Tryz.ntmps68
  go_wp2_with (first | ((with_reducible refine aAa (f := 50) rfl ?_); refine aBh (some 4) Tryz.func50 #[.int .i64 a0, .int .i64 0, .int .i64 6] ?_; (with_reducible refine (bN.calls _ _ _ _ _ A2.out).mono ?_); rintro e w' ⟨rfl, ⟨nd, rfl⟩⟩; refine ⟨_, rfl, ?_⟩))
  go_ret
  exact ⟨er_, bb_⟩
def bF.j0 : Nat → Bool → Int → ByteArray → Int → Int → Int → Int → ByteArray → ByteArray → List S39 → List S39 → Int → List S42 → Option Bool
 | 0, _, _, _, _, _, _, _, _, _, _, _, _, _ => none
 | k + 1, x26, GQ, cX6, cSD, cQU, cU8, cNL, cVK, d1Y, d0T, bI2, aUE, VM => if x26 = true then (some false) else (if GQ = 2 then (if GQ = 6 then ((iT.f GQ).bind fun cJE => (some ((VM.length : Int) == cJE))) else (if aUE = 0 then ((iT.f GQ).bind fun t212 => (some ((VM.length : Int) == t212))) else (some false))) else (if GQ = 6 then ((iT.f GQ).bind fun t213 => (some ((VM.length : Int) == t213))) else (if (bI2.length : Int) > 0 then (some false) else (if aUE = 0 then ((iT.f GQ).bind fun cHV => (some ((VM.length : Int) == cHV))) else (some false)))))
def bF.f (k : Nat) (aA : Int) (aD : ByteArray) (aH aK : Int) (aJ aI : Int) (bC bB : ByteArray) (bG aV : List S39) (aW : Int) (aM : List S42) : Option Bool := if aA = 0 then (if aA = 1 then (bF.j0 k false aA aD aH aK aJ aI bC bB bG aV aW aM) else (if aA = 3 then (bF.j0 k false aA aD aH aK aJ aI bC bB bG aV aW aM) else ((jP.f aH aK aJ aI bC bB bG).bind fun b0Q => (bF.j0 k (!b0Q) aA aD aH aK aJ aI bC bB bG aV aW aM)))) else (if aD.toList = ([] : List UInt8) then (if aA = 1 then (bF.j0 k false aA aD aH aK aJ aI bC bB bG aV aW aM) else (if aA = 3 then (bF.j0 k false aA aD aH aK aJ aI bC bB bG aV aW aM) else ((jP.f aH aK aJ aI bC bB bG).bind fun t210 => (bF.j0 k (!t210) aA aD aH aK aJ aI bC bB bG aV aW aM)))) else (bF.j0 k true aA aD aH aK aJ aI bC bB bG aV aW aM))
def bF.T5 : Bool × List (List Nat × List Nat) := (true, [([], []), ([0], [0]), ([1], [1]), ([], []), ([3], [3]), ([4], [4]), ([2, 5], [2, 5]), ([6, 5, 0, 1, 2, 3, 4, 5, 6], [6])])
def bF.B5 : List Nat := [0, 1, 3, 0, 8, 24, 63, 127]
theorem bF.MV : aEr .any (opsOf Tryz.f47 5) = bF.T5 := by kernel_rfl
theorem bF.xI : aBu bF.T5.2 bF.B5 = true := by kernel_rfl
theorem bF.calls (k : Nat) (aA : Int) (aD : ByteArray) (aH aK : Int) (aJ aI : Int) (bC bB : ByteArray) (dN : Option Addr) (dQ : Nat) (bG : List S39) (bZ : Option Addr) (cB : Nat) (aV : List S39) (aW : Int) (bP : Option Addr) (bM : Nat) (aM : List S42) (r : Bool) (w : World) (mG : Kd.C jX w dN bG.length bG) (lV : bG.length ≤ dQ) (jG : Kd.C jX w bZ aV.length aV) (jH : aV.length ≤ cB) (jS : Kd.C E5 w bP aM.length aM) (jN : aM.length ≤ bM) (h : bF.f k aA aD aH aK aJ aI bC bB bG aV aW aM = some r) :
  Calls Tryz.prog 47 #[.agg #[.int .i64 aA, .string aD, .int .i64 aH, .int .i64 aK, .int .i64 aJ, .int .i64 aI, .string bC, .string bB, .slice dN bG.length dQ, .slice bZ aV.length cB, .int .i64 aW, .slice bP aM.length bM]] w fun e w' => e = .returned (.bool r) ∧ Below w.heap.size w w' := by
 obtain ⟨MW, zH⟩ := b0Y
 have iG := am_ mG
 have iD := am_ lV
 clear mG lV
 have iR := am_ jG
 have iZ := am_ jH
 clear jG jH
 have jE := am_ jS
 have jR := am_ jN
 clear jS jN
 have HB := am_ (Below.refl w.heap.size w)
 have H : (if aA = 0 then (if aA = 1 then (bF.j0 k false aA aD aH aK aJ aI bC bB bG aV aW aM) else (if aA = 3 then (bF.j0 k false aA aD aH aK aJ aI bC bB bG aV aW aM) else ((jP.f aH aK aJ aI bC bB bG).bind fun b0Q => (bF.j0 k (!b0Q) aA aD aH aK aJ aI bC bB bG aV aW aM)))) else (if aD.toList = ([] : List UInt8) then (if aA = 1 then (bF.j0 k false aA aD aH aK aJ aI bC bB bG aV aW aM) else (if aA = 3 then (bF.j0 k false aA aD aH aK aJ aI bC bB bG aV aW aM) else ((jP.f aH aK aJ aI bC bB bG).bind fun t210 => (bF.j0 k (!t210) aA aD aH aK aJ aI bC bB bG aV aW aM)))) else (bF.j0 k true aA aD aH aK aJ aI bC bB bG aV aW aM))) = some r := h
 clear h
 have HC2 := am_ H
 clear H
 go_enter Tryz.func47, Tryz.ntmps47
 go_upto_region 1 with (first | ((with_reducible refine aAc (N := 1) rfl ?_); (try (refine aAn (by rfl) ?_; dsimp only)); refine bx_ 1 #[.int .i64 aA, .string aD, .int .i64 aH, .int .i64 aK, .int .i64 aJ, .int .i64 aI, .string bC, .string bB, .slice dN bG.length dQ, .slice bZ aV.length cB, .int .i64 aW, .slice bP aM.length bM] 42 ?_; intro cGD hg w3 hbox hb; have gB := am_ (hbox); have d8Z := gw_ hg; replace HB := bs_ hb; clear hb hbox hg))
 (try simp only [Act.put, List.setIfInBounds_toArray, List.set_cons_zero, List.set_cons_succ])
 go_cut [26] (fun v26 wc => ∃ (kq : Nat) (aY1 : Bool), v26 = .bool aY1 ∧ Aside0 (bF.j0 kq aY1 aA aD aH aK aJ aI bC bB bG aV aW aM = some r) ∧ Aside0 (kq ≤ k) ∧ Aside0 (wc.heap[cGD]? = some (.cells #[.int .i64 aA, .string aD, .int .i64 aH, .int .i64 aK, .int .i64 aJ, .int .i64 aI, .string bC, .string bB, (.slice dN bG.length dQ), (.slice bZ aV.length cB), .int .i64 aW, (.slice bP aM.length bM)] 42 (0, 0))) ∧ Aside0 (Below w.heap.size w wc))
 case first =>
  have H := HC2.out; clear HC2
  by_cases c4 : aA = 0
  ·rw [if_pos c4] at H
   have iB : (aA == 0) = true := beq_iff_eq.mpr c4; have a0A : (aA != 0) = false := bne_eq_false_iff_eq.mpr c4; clear c4; (first | rw [iB] | (simp only [aCj, aCw]; rw [iB]) | skip)
   by_cases c5 : aA = 1
   ·rw [if_pos c5] at H
    have pV : (aA == 1) = true := beq_iff_eq.mpr c5; have NR : (aA != 1) = false := bne_eq_false_iff_eq.mpr c5; clear c5; have H' := am_ H; clear H; obtain ⟨kW, kU, oU, pG, oK, oJ, oO, b6O, bA8, b21, aNV, aRQ, kY, lH, oW, oV, p9, pI, oH, bA0, b6C, b4H, aRS, aLL⟩ := aBw gB
    go_wp2
    go_meet
    case rel => exact ⟨_, (false), rs_, H', ⟨by first | omega | exact Nat.le_refl _⟩, ⟨aBx gB.out⟩, ⟨bb_⟩⟩
   ·rw [if_neg c5] at H
    have pV : (aA == 1) = false := beq_eq_false_iff_ne.mpr c5; have NR : (aA != 1) = true := bne_iff_ne.mpr c5
    by_cases c7 : aA = 3
    ·rw [if_pos c7] at H
     have iV : (aA == 3) = true := beq_iff_eq.mpr c7; have zG : (aA != 3) = false := bne_eq_false_iff_eq.mpr c7; clear c7; have H' := am_ H; clear H; obtain ⟨qI, qG, xA, AQ, zB, zZ, AC, SQ, TZ, TB, LH, KL, qF, qH, xD, zU, yU, zQ, zI, U2, TW, SX, MS, M5⟩ := aBw gB
     go_wp2
     go_meet
     case rel => exact ⟨_, (false), rs_, H', ⟨by first | omega | exact Nat.le_refl _⟩, ⟨aBx gB.out⟩, ⟨bb_⟩⟩
    ·rw [if_neg c7] at H
     have iV : (aA == 3) = false := beq_eq_false_iff_ne.mpr c7; have zG : (aA != 3) = true := bne_iff_ne.mpr c7; replace H := aBp H; obtain ⟨b0Q, A90, H⟩ := H
     try dsimp only at H
     have A9 := am_ A90; clear A90; have H' := am_ H; clear H; obtain ⟨lN, lL, nI, DD, BX, DI, D8, aS5, aWP, aXJ, aGL, aCR, lM, lJ, nD, DF, CU, CE, CV, aV8, aSH, aVP, aCJ, aHB⟩ := aBw gB
     go_wp2_with (first | (go_at_call 67; (with_reducible refine (jP.calls _ _ _ _ _ _ _ _ _ _ _ (cb_ iG HB) iD.out A9.out).mono ?_); rintro e jI ⟨rfl, hb⟩; have n0_ := aAt gB hb; have n1_ := bs_ hb; clear gB; clear HB; have gB := n0_; have HB := n1_; clear n0_ n1_; (try clear hb)))
     go_meet
     case rel => exact ⟨_, (!b0Q), rs_, H', ⟨by first | omega | exact Nat.le_refl _⟩, ⟨aBx gB.out⟩, ⟨bb_⟩⟩
  ·rw [if_neg c4] at H
   have iB : (aA == 0) = false := beq_eq_false_iff_ne.mpr c4; have a0A : (aA != 0) = true := bne_iff_ne.mpr c4; (first | rw [iB] | (simp only [aCj, aCw]; rw [iB]) | skip)
   by_cases c12 : aD.toList = ([] : List UInt8)
   ·rw [if_pos c12] at H
    have uK : (aD.toList == ([] : List UInt8)) = true := beq_iff_eq.mpr c12; have aS4 : (aD.toList != ([] : List UInt8)) = false := bne_eq_false_iff_eq.mpr c12; clear c12
    by_cases c13 : aA = 1
    ·rw [if_pos c13] at H
     have JL : (aA == 1) = true := beq_iff_eq.mpr c13; have a0R : (aA != 1) = false := bne_eq_false_iff_eq.mpr c13; clear c13; have H' := am_ H; clear H; obtain ⟨nZ, nV, rD, vX, vP, vZ, wB, D9, CG, BL, wS, wM, oG, nW, rA, wH, vJ, vG, vC, CL, BI, DJ, wX, wO⟩ := aBw gB
     go_wp2
     go_meet
     case rel => exact ⟨_, (false), rs_, H', ⟨by first | omega | exact Nat.le_refl _⟩, ⟨aBx gB.out⟩, ⟨bb_⟩⟩
    ·rw [if_neg c13] at H
     have JL : (aA == 1) = false := beq_eq_false_iff_ne.mpr c13; have a0R : (aA != 1) = true := bne_iff_ne.mpr c13
     by_cases c15 : aA = 3
     ·rw [if_pos c15] at H
      have YE : (aA == 3) = true := beq_iff_eq.mpr c15; have a19 : (aA != 3) = false := bne_eq_false_iff_eq.mpr c15; clear c15; have H' := am_ H; clear H; obtain ⟨rH, rO, tQ, vE, vW, vY, wG, LP, LW, MQ, EG, ES, rE, rP, sP, vN, vM, vT, wF, KE, L8, KQ, E9, EQ⟩ := aBw gB
      go_wp2
      go_meet
      case rel => exact ⟨_, (false), rs_, H', ⟨by first | omega | exact Nat.le_refl _⟩, ⟨aBx gB.out⟩, ⟨bb_⟩⟩
     ·rw [if_neg c15] at H
      have YE : (aA == 3) = false := beq_eq_false_iff_ne.mpr c15; have a19 : (aA != 3) = true := bne_iff_ne.mpr c15; replace H := aBp H; obtain ⟨t210, b6W, H⟩ := H
      try dsimp only at H
      have A17 := am_ b6W; clear b6W; have H' := am_ H; clear H; obtain ⟨tY, tJ, yJ, GR, FB, G7, GL, aAP, a8E, aBA, YT, XN, tK, sO, yP, F7, FQ, F8, GH, aAR, aA4, a6N, YM, Z0⟩ := aBw gB
      go_wp2_with (first | (go_at_call 67; (with_reducible refine (jP.calls _ _ _ _ _ _ _ _ _ _ _ (cb_ iG HB) iD.out A17.out).mono ?_); rintro e w19 ⟨rfl, hb⟩; have n0_ := aAt gB hb; have n1_ := bs_ hb; clear gB; clear HB; have gB := n0_; have HB := n1_; clear n0_ n1_; (try clear hb)))
      go_meet
      case rel => exact ⟨_, (!t210), rs_, H', ⟨by first | omega | exact Nat.le_refl _⟩, ⟨aBx gB.out⟩, ⟨bb_⟩⟩
   ·rw [if_neg c12] at H
    have uK : (aD.toList == ([] : List UInt8)) = false := beq_eq_false_iff_ne.mpr c12; have aS4 : (aD.toList != ([] : List UInt8)) = true := bne_iff_ne.mpr c12; have H' := am_ H; clear H; obtain ⟨yD, xU, CJ, GG, FM, FH, F4, O4, PR, RG, IP, JQ, yN, yL, BR, FT, F5, FX, GM, Q3, OE, OJ, IR, JB⟩ := aBw gB
    go_wp2
    go_meet
    case rel => exact ⟨_, (true), rs_, H', ⟨by first | omega | exact Nat.le_refl _⟩, ⟨aBx gB.out⟩, ⟨bb_⟩⟩
 case rest =>
  clear HC2; (try clear c1); (try clear p2); (try clear c4); (try clear iB); (try clear a0A); (try clear c5); (try clear pV); (try clear NR); (try clear c7); (try clear iV); (try clear zG); (try clear c12); (try clear uK); (try clear aS4); (try clear c13); (try clear JL); (try clear a0R); (try clear c15); (try clear YE); (try clear a19); (try clear lN lL); (try clear aGL); (try clear aCR); (try clear nI DD BX DI D8 aS5 aWP aXJ); (try clear nZ nV); (try clear wS); (try clear wM); (try clear rD vX vP vZ wB D9 CG BL); (try clear rH rO); (try clear EG); (try clear ES); (try clear tQ vE vW vY wG LP LW MQ); (try clear tY tJ); (try clear YT); (try clear XN); (try clear yJ GR FB G7 GL aAP a8E aBA); (try clear yD xU); (try clear IP); (try clear JQ); (try clear CJ GG FM FH F4 O4 PR RG); (try clear kW kU); (try clear aNV); (try clear aRQ); (try clear oU pG oK oJ oO b6O bA8 b21); (try clear qI qG); (try clear LH); (try clear KL); (try clear xA AQ zB zZ AC SQ TZ TB); (try clear lM lJ); (try clear aCJ); (try clear aHB); (try clear nD DF CU CE CV aV8 aSH aVP); (try clear oG nW); (try clear wX); (try clear wO); (try clear rA wH vJ vG vC CL BI DJ); (try clear rE rP); (try clear E9); (try clear EQ); (try clear sP vN vM vT wF KE L8 KQ); (try clear tK sO); (try clear YM); (try clear Z0); (try clear yP F7 FQ F8 GH aAR aA4 a6N); (try clear yN yL); (try clear IR); (try clear JB); (try clear BR FT F5 FX GM Q3 OE OJ); (try clear kY lH); (try clear aRS); (try clear aLL); (try clear oW oV p9 pI oH bA0 b6C b4H); (try clear qF qH); (try clear MS); (try clear M5); (try clear xD zU yU zQ zI U2 TW SX); obtain ⟨kq, aY1, rfl, HA, HJ1, gB, HB⟩ := hcut
  cases kq with
  | zero => exact absurd HA.out (by simp [bF.j0])
  | succ kj1 =>
   have H := HA.out; clear HA; simp only [bF.j0] at H
   by_cases c21 : aY1 = true
   ·subst c21
    rw [if_pos rfl] at H; obtain rfl := Option.some.inj H
    go_wp2
    go_ret
    exact ⟨er_, bb_⟩
   ·replace c21 := Bool.eq_false_iff.mpr c21
    subst c21; replace H := aZf H
    by_cases NK : aA = 2
    ·rw [if_pos NK] at H
     have YV : (aA == 2) = true := beq_iff_eq.mpr NK; have b6B : (aA != 2) = false := bne_eq_false_iff_eq.mpr NK; clear NK
     by_cases c23 : aA = 6
     ·rw [if_pos c23] at H
      have b9N : (aA == 6) = true := beq_iff_eq.mpr c23; have b67 : (aA != 6) = false := bne_eq_false_iff_eq.mpr c23; clear c23; replace H := aBp H; obtain ⟨cJE, cLT, H⟩ := H
      try dsimp only at H
      have A24 := am_ cLT; clear cLT; obtain rfl := Option.some.inj H; obtain ⟨uG, uH, vI, FP, F9, GN, FW, aLO, aR6, aL2, aDA, aGK, sI, tO, vQ, G8, GI, F6, FL, aOG, aL6, aOE, aEN, aCX⟩ := aBw gB
      try go_wp2
      replace gB := am_ (aAz gB.out); replace HB := am_ (aAm HB.out); (refine st_ 8 (aEm gB) (fun hHeld => ?_); refine aAv bF.MV bF.xI (fun HT_ HW_ => ?_)); generalize wc.drew = w26 at gB HB hHeld ⊢; refine pl_ ?_; refine aBa 3 (bm 8 9) ?_; refine aCx 1 (bm 8 11) ?_; refine aBa 2 (tf 4 4) ?_; refine tl_ ?_; refine aCm (i := 5) (N := some 56) (tf 6 2) (h := fun K hK => ?_); refine gs_ Tryz.func68 #[.int .i64 aA] ?_; (with_reducible refine (iT.calls _ _ _ A24.out).mono ?_); rintro e w27 ⟨rfl, hb⟩; refine ⟨_, rfl, ?_⟩; replace gB := aAt gB hb; replace HB := bs_ hb; (try clear hb); refine hK.out _ _ (aEm gB) (fun hHeld => ?_); clear hK K; refine nm_ ?_; refine aBa 6 (tf 7 1) ?_; refine pl_ ?_; refine dn_ ?_
      try go_wp2
      go_ret
      exact ⟨er_, bb_⟩
     ·rw [if_neg c23] at H
      have b9N : (aA == 6) = false := beq_eq_false_iff_ne.mpr c23; have b67 : (aA != 6) = true := bne_iff_ne.mpr c23
      by_cases c28 : aW = 0
      ·rw [if_pos c28] at H
       have YS : (aW == 0) = true := beq_iff_eq.mpr c28; have aBZ : (aW != 0) = false := bne_eq_false_iff_eq.mpr c28; clear c28; replace H := aBp H; obtain ⟨t212, aFO, H⟩ := H
       try dsimp only at H
       have A29 := am_ aFO; clear aFO; obtain rfl := Option.some.inj H; obtain ⟨UO, UL, VH, UX, VU, VG, VK, WW, UT, VB, Q0, RU, XG, UQ, WP, XH, VF, WO, UN, UW, VS, VX, R7, PZ⟩ := aBw gB
       try go_wp2
       replace gB := am_ (aAz gB.out); replace HB := am_ (aAm HB.out); (refine st_ 8 (aEm gB) (fun hHeld => ?_); refine aAv bF.MV bF.xI (fun HT_ HW_ => ?_)); generalize wc.drew = w31 at gB HB hHeld ⊢; refine pl_ ?_; refine aBa 3 (bm 8 9) ?_; refine aCx 1 (bm 8 11) ?_; refine aBa 2 (tf 4 4) ?_; refine tl_ ?_; refine aCm (i := 5) (N := some 56) (tf 6 2) (h := fun K hK => ?_); refine gs_ Tryz.func68 #[.int .i64 aA] ?_; (with_reducible refine (iT.calls _ _ _ A29.out).mono ?_); rintro e w32 ⟨rfl, hb⟩; refine ⟨_, rfl, ?_⟩; replace gB := aAt gB hb; replace HB := bs_ hb; (try clear hb); refine hK.out _ _ (aEm gB) (fun hHeld => ?_); clear hK K; refine nm_ ?_; refine aBa 6 (tf 7 1) ?_; refine pl_ ?_; refine dn_ ?_
       try go_wp2
       go_ret
       exact ⟨er_, bb_⟩
      ·rw [if_neg c28] at H
       have YS : (aW == 0) = false := beq_eq_false_iff_ne.mpr c28; have aBZ : (aW != 0) = true := bne_iff_ne.mpr c28; obtain rfl := Option.some.inj H; obtain ⟨aU3, aOW, aST, aV0, aOQ, aL5, aO6, bJ1, bML, bLY, b4P, b4X, aTE, aY3, aR9, aOM, aML, aP8, aSR, bK8, bBY, bCT, b79, b7Q⟩ := aBw gB
       go_wp2
       go_ret
       exact ⟨er_, bb_⟩
    ·rw [if_neg NK] at H
     have YV : (aA == 2) = false := beq_eq_false_iff_ne.mpr NK; have b6B : (aA != 2) = true := bne_iff_ne.mpr NK
     by_cases c34 : aA = 6
     ·rw [if_pos c34] at H
      have bR4 : (aA == 6) = true := beq_iff_eq.mpr c34; have c4I : (aA != 6) = false := bne_eq_false_iff_eq.mpr c34; clear c34; replace H := aBp H; obtain ⟨t213, cE3, H⟩ := H
      try dsimp only at H
      have A35 := am_ cE3; clear cE3; obtain rfl := Option.some.inj H; obtain ⟨a9A, a9B, a3Q, aT2, aRV, aNZ, aQZ, bG9, bEH, bM5, b57, b7L, aAF, a3X, a2K, aL4, aK7, aM5, aKV, bO4, bMY, bE8, bAI, b8P⟩ := aBw gB
      try go_wp2
      replace gB := am_ (aAz gB.out); replace HB := am_ (aAm HB.out); (refine st_ 8 (aEm gB) (fun hHeld => ?_); refine aAv bF.MV bF.xI (fun HT_ HW_ => ?_)); generalize wc.drew = w37 at gB HB hHeld ⊢; refine pl_ ?_; refine aBa 3 (bm 8 9) ?_; refine aCx 1 (bm 8 11) ?_; refine aBa 2 (tf 4 4) ?_; refine tl_ ?_; refine aCm (i := 5) (N := some 56) (tf 6 2) (h := fun K hK => ?_); refine gs_ Tryz.func68 #[.int .i64 aA] ?_; (with_reducible refine (iT.calls _ _ _ A35.out).mono ?_); rintro e w38 ⟨rfl, hb⟩; refine ⟨_, rfl, ?_⟩; replace gB := aAt gB hb; replace HB := bs_ hb; (try clear hb); refine hK.out _ _ (aEm gB) (fun hHeld => ?_); clear hK K; refine nm_ ?_; refine aBa 6 (tf 7 1) ?_; refine pl_ ?_; refine dn_ ?_
      try go_wp2
      go_ret
      exact ⟨er_, bb_⟩
     ·rw [if_neg c34] at H
      have bR4 : (aA == 6) = false := beq_eq_false_iff_ne.mpr c34; have c4I : (aA != 6) = true := bne_iff_ne.mpr c34
      by_cases c39 : (aV.length : Int) > 0
      ·rw [if_pos c39] at H
       have cEX := decide_eq_true c39; have cCR : decide (0 < aV.length) = true := decide_eq_true (by omega); clear c39; obtain rfl := Option.some.inj H; obtain ⟨a7U, aBS, aAZ, a8Z, aBE, a7D, a7H, aXC, aTT, aO8, aIB, aET, a6O, a4K, a5P, a4X, a5Z, a4I, aBQ, aVM, aN8, aWT, aF8, aES⟩ := aBw gB
       go_wp2
       go_ret
       exact ⟨er_, bb_⟩
      ·rw [if_neg c39] at H
       have cEX := decide_eq_false c39; have cCR : decide (0 < aV.length) = false := decide_eq_false (by omega); clear c39
       by_cases c41 : aW = 0
       ·rw [if_pos c41] at H
        have aMH : (aW == 0) = true := beq_iff_eq.mpr c41; have aMN : (aW != 0) = false := bne_eq_false_iff_eq.mpr c41; clear c41; replace H := aBp H; obtain ⟨cHV, b9K, H⟩ := H
        try dsimp only at H
        have A42 := am_ b9K; clear b9K; obtain rfl := Option.some.inj H; obtain ⟨aR3, aOY, aVA, aNC, aWU, aU7, aW4, aXS, aT9, aTD, aG7, aF7, aVS, aW2, aXY, aQT, aRP, aTV, aS9, aXP, aOP, aX6, aH3, aDN⟩ := aBw gB
        try go_wp2
        replace gB := am_ (aAz gB.out); replace HB := am_ (aAm HB.out); (refine st_ 8 (aEm gB) (fun hHeld => ?_); refine aAv bF.MV bF.xI (fun HT_ HW_ => ?_)); generalize wc.drew = w44 at gB HB hHeld ⊢; refine pl_ ?_; refine aBa 3 (bm 8 9) ?_; refine aCx 1 (bm 8 11) ?_; refine aBa 2 (tf 4 4) ?_; refine tl_ ?_; refine aCm (i := 5) (N := some 56) (tf 6 2) (h := fun K hK => ?_); refine gs_ Tryz.func68 #[.int .i64 aA] ?_; (with_reducible refine (iT.calls _ _ _ A42.out).mono ?_); rintro e w45 ⟨rfl, hb⟩; refine ⟨_, rfl, ?_⟩; replace gB := aAt gB hb; replace HB := bs_ hb; (try clear hb); refine hK.out _ _ (aEm gB) (fun hHeld => ?_); clear hK K; refine nm_ ?_; refine aBa 6 (tf 7 1) ?_; refine pl_ ?_; refine dn_ ?_
        try go_wp2
        go_ret
        exact ⟨er_, bb_⟩
       ·rw [if_neg c41] at H
        have aMH : (aW == 0) = false := beq_eq_false_iff_ne.mpr c41; have aMN : (aW != 0) = true := bne_iff_ne.mpr c41; obtain rfl := Option.some.inj H; obtain ⟨aPJ, aXM, aX9, aUS, aKD, aWJ, aR7, bNC, bD6, bDN, b3R, b81, aUB, aQN, aT4, aQP, aVR, aO2, aX0, bFV, bBR, bES, b3G, b4R⟩ := aBw gB
        go_wp2
        go_ret
        exact ⟨er_, bb_⟩
end Go.Proofs.YtnobhkmpkichdaaGreat.PFnExactViewsOk
