import Derived.Test.YtnobhkmpkichdaaGreatPress5
import Derived.Test.YtnobhkmpkichdaaGreatPFnExactViewsOkx10
import Derived.Test.YtnobhkmpkichdaaGreatPFnExactViewsOkx5
namespace Go.Proofs.YtnobhkmpkichdaaGreat.PFnExactViewsOk
open Go.RowKit YtnobhkmpkichdaaGreatW.PrintWords YtnobhkmpkichdaaGreatW.PrintLast YtnobhkmpkichdaaGreatW.PrintMore
attribute [local go_sem] aDf aDi aEf aEe aCs aCt aDh aDg
set_option linter.unusedVariables false
set_option maxHeartbeats 8000000
set_option maxRecDepth 100000
set_option linter.unusedSimpArgs false
def iK.f : Nat → (List S68) → Int → ByteArray → Int → Int → Int → Int → ByteArray → ByteArray → (List S39) → (List S39) → Int → (List S42) → Int → Option Int
 | 0, _, _, _, _, _, _, _, _, _, _, _, _, _, _ => none
 | k + 1, l0, aX, bD, bJ, bX, bY, bV, eX, eY, dU, dB, dC, aY, a2 => (aG.f (iK.f k) k aX bD bJ bX bY bV eX eY dU dB dC aY l0 a2).bind fun Y9 => (if Y9.2 = true then (if Y9.1 > 12 then (some (-1)) else (if a2 > 8 then (some (-1)) else (some Y9.1))) else (some (-1)))
theorem iK.calls : ∀ (k : Nat) (A0 : Option Addr) (c0 : Nat) (l0 : List S68) (aX : Int) (bD : ByteArray) (bJ bX : Int) (bY bV : Int) (eX eY : ByteArray) (iX : Option Addr) (iY : Nat) (dU : List S39) (iA : Option Addr) (gZ : Nat) (dB : List S39) (dC : Int) (fP : Option Addr) (fG : Nat) (aY : List S42) (a2 r : Int) (w : World) (hr0 : Kd.C BC w A0 l0.length l0) (hc0 : l0.length ≤ c0) (nM : Kd.C jX w iX dU.length dU) (nP : dU.length ≤ iY) (mK : Kd.C jX w iA dB.length dB) (mM : dB.length ≤ gZ) (kJ : Kd.C E5 w fP aY.length aY) (kI : aY.length ≤ fG) (h : iK.f k l0 aX bD bJ bX bY bV eX eY dU dB dC aY a2 = some r),
  Calls Tryz.prog 27 #[.slice A0 l0.length c0, .agg #[.int .i64 aX, .string bD, .int .i64 bJ, .int .i64 bX, .int .i64 bY, .int .i64 bV, .string eX, .string eY, .slice iX dU.length iY, .slice iA dB.length gZ, .int .i64 dC, .slice fP aY.length fG], .int .i64 a2] w fun e w' => e = .returned (.int .i64 r) ∧ Below w.heap.size w w' := by
 intro k
 induction k with
 | zero =>
  intro A0 c0 l0 aX bD bJ bX bY bV eX eY iX iY dU iA gZ dB dC fP fG aY a2 r w hr0 hc0 nM nP mK mM kJ kI h; exact absurd h (by simp [iK.f])
 | succ k ih_ =>
  intro A0 c0 l0 aX bD bJ bX bY bV eX eY iX iY dU iA gZ dB dC fP fG aY a2 r w hr0 hc0 nM nP mK mM kJ kI h; have MW := Tryz.underlying42; have jY := am_ hr0; have oQ := am_ hc0; clear hr0 hc0; have rZ := am_ nM; have rX := am_ nP; clear nM nP; have oP := am_ mK; have oL := am_ mM; clear mK mM; have qE := am_ kJ; have rU := am_ kI; clear kJ kI; have HB := am_ (Below.refl w.heap.size w); (have H : ((aG.f (iK.f k) k aX bD bJ bX bY bV eX eY dU dB dC aY l0 a2).bind fun Y9 => (if Y9.2 = true then (if Y9.1 > 12 then (some (-1)) else (if a2 > 8 then (some (-1)) else (some Y9.1))) else (some (-1)))) = some r := h); clear h; replace H := aBp H; obtain ⟨⟨d3E, d4E⟩, N9, H⟩ := H
  try dsimp only at H
  have A4 := am_ N9; clear N9
  by_cases c5 : d4E = true
  ·subst c5
   rw [if_pos rfl] at H
   by_cases c6 : d3E > 12
   ·rw [if_pos c6] at H
    have mY := decide_eq_true c6; clear c6; obtain rfl := Option.some.inj H
    go_enter Tryz.func27, Tryz.ntmps27
    go_wp2_with (first | ((with_reducible refine aAc (N := 4) rfl ?_); refine bx_ 4 #[.int .i64 aX, .string bD, .int .i64 bJ, .int .i64 bX, .int .i64 bY, .int .i64 bV, .string eX, .string eY, .slice iX dU.length iY, .slice iA dB.length gZ, .int .i64 dC, .slice fP aY.length fG] 42 ?_; intro b5D hg w7 hbox hb; have BA := am_ (hbox); have b1R := gw_ hg; replace HB := bs_ hb; clear hb hbox hg; obtain ⟨qI, qG, xA, AQ, zB, zZ, AC, SQ, TZ, TB, LH, KL, qF, qH, xD, zU, yU, zQ, zI, U2, TW, SX, MS, M5⟩ := aBw BA) | ((with_reducible refine aAa (f := 53) rfl ?_); refine aBh (some 13) Tryz.func53 #[.agg #[.int .i64 aX, .string bD, .int .i64 bJ, .int .i64 bX, .int .i64 bY, .int .i64 bV, .string eX, .string eY, .slice iX dU.length iY, .slice iA dB.length gZ, .int .i64 dC, .slice fP aY.length fG], .slice A0 l0.length c0, .int .i64 a2] ?_; (with_reducible refine (aG.calls _ ih_ _ _ _ _ _ _ _ _ _ _ _ _ _ _ _ _ _ _ _ _ _ _ _ _ _ _ (cb_ rZ HB) rX.out (cb_ oP HB) oL.out (cb_ qE HB) rU.out (cb_ jY HB) oQ.out A4.out).mono ?_); rintro e w9 ⟨rfl, hb⟩; refine ⟨_, rfl, ?_⟩; replace BA := aAt BA hb; replace HB := bs_ hb; (try clear hb)))
    go_ret
    exact ⟨er_, bb_⟩
   ·rw [if_neg c6] at H
    have mY := decide_eq_false c6; clear c6
    by_cases c10 : a2 > 8
    ·rw [if_pos c10] at H
     have UA := decide_eq_true c10; clear c10; obtain rfl := Option.some.inj H
     go_enter Tryz.func27, Tryz.ntmps27
     go_wp2_with (first | ((with_reducible refine aAc (N := 4) rfl ?_); refine bx_ 4 #[.int .i64 aX, .string bD, .int .i64 bJ, .int .i64 bX, .int .i64 bY, .int .i64 bV, .string eX, .string eY, .slice iX dU.length iY, .slice iA dB.length gZ, .int .i64 dC, .slice fP aY.length fG] 42 ?_; intro b5D hg jI hbox hb; have BA := am_ (hbox); have b1R := gw_ hg; replace HB := bs_ hb; clear hb hbox hg; obtain ⟨uI, tF, xS, GK, FY, FZ, GJ, aTI, aXB, aSY, aER, aE3, uA, sG, xW, FV, GA, G5, FN, aY7, aNB, aL3, aFF, aEY⟩ := aBw BA) | ((with_reducible refine aAa (f := 53) rfl ?_); refine aBh (some 13) Tryz.func53 #[.agg #[.int .i64 aX, .string bD, .int .i64 bJ, .int .i64 bX, .int .i64 bY, .int .i64 bV, .string eX, .string eY, .slice iX dU.length iY, .slice iA dB.length gZ, .int .i64 dC, .slice fP aY.length fG], .slice A0 l0.length c0, .int .i64 a2] ?_; (with_reducible refine (aG.calls _ ih_ _ _ _ _ _ _ _ _ _ _ _ _ _ _ _ _ _ _ _ _ _ _ _ _ _ _ (cb_ rZ HB) rX.out (cb_ oP HB) oL.out (cb_ qE HB) rU.out (cb_ jY HB) oQ.out A4.out).mono ?_); rintro e ZO ⟨rfl, hb⟩; refine ⟨_, rfl, ?_⟩; replace BA := aAt BA hb; replace HB := bs_ hb; (try clear hb)))
     go_ret
     exact ⟨er_, bb_⟩
    ·rw [if_neg c10] at H
     have UA := decide_eq_false c10; clear c10; obtain rfl := Option.some.inj H
     go_enter Tryz.func27, Tryz.ntmps27
     go_wp2_with (first | ((with_reducible refine aAc (N := 4) rfl ?_); refine bx_ 4 #[.int .i64 aX, .string bD, .int .i64 bJ, .int .i64 bX, .int .i64 bY, .int .i64 bV, .string eX, .string eY, .slice iX dU.length iY, .slice iA dB.length gZ, .int .i64 dC, .slice fP aY.length fG] 42 ?_; intro b5D hg w14 hbox hb; have BA := am_ (hbox); have b1R := gw_ hg; replace HB := bs_ hb; clear hb hbox hg; obtain ⟨pX, pU, rQ, BZ, CW, BN, DK, a92, a8J, aAH, ZL, Y8, pJ, pR, rR, BJ, DC, BH, CQ, a5D, aA3, a9F, Z4, Y0⟩ := aBw BA) | ((with_reducible refine aAa (f := 53) rfl ?_); refine aBh (some 13) Tryz.func53 #[.agg #[.int .i64 aX, .string bD, .int .i64 bJ, .int .i64 bX, .int .i64 bY, .int .i64 bV, .string eX, .string eY, .slice iX dU.length iY, .slice iA dB.length gZ, .int .i64 dC, .slice fP aY.length fG], .slice A0 l0.length c0, .int .i64 a2] ?_; (with_reducible refine (aG.calls _ ih_ _ _ _ _ _ _ _ _ _ _ _ _ _ _ _ _ _ _ _ _ _ _ _ _ _ _ (cb_ rZ HB) rX.out (cb_ oP HB) oL.out (cb_ qE HB) rU.out (cb_ jY HB) oQ.out A4.out).mono ?_); rintro e w16 ⟨rfl, hb⟩; refine ⟨_, rfl, ?_⟩; replace BA := aAt BA hb; replace HB := bs_ hb; (try clear hb)))
     go_ret
     exact ⟨er_, bb_⟩
  ·replace c5 := Bool.eq_false_iff.mpr c5
   subst c5; replace H := aZf H; obtain rfl := Option.some.inj H
   go_enter Tryz.func27, Tryz.ntmps27
   go_wp2_with (first | ((with_reducible refine aAc (N := 4) rfl ?_); refine bx_ 4 #[.int .i64 aX, .string bD, .int .i64 bJ, .int .i64 bX, .int .i64 bY, .int .i64 bV, .string eX, .string eY, .slice iX dU.length iY, .slice iA dB.length gZ, .int .i64 dC, .slice fP aY.length fG] 42 ?_; intro b5D hg w17 hbox hb; have BA := am_ (hbox); have b1R := gw_ hg; replace HB := bs_ hb; clear hb hbox hg; obtain ⟨tY, tJ, yJ, GR, FB, G7, GL, aAP, a8E, aBA, YT, XN, tK, sO, yP, F7, FQ, F8, GH, aAR, aA4, a6N, YM, Z0⟩ := aBw BA) | ((with_reducible refine aAa (f := 53) rfl ?_); refine aBh (some 13) Tryz.func53 #[.agg #[.int .i64 aX, .string bD, .int .i64 bJ, .int .i64 bX, .int .i64 bY, .int .i64 bV, .string eX, .string eY, .slice iX dU.length iY, .slice iA dB.length gZ, .int .i64 dC, .slice fP aY.length fG], .slice A0 l0.length c0, .int .i64 a2] ?_; (with_reducible refine (aG.calls _ ih_ _ _ _ _ _ _ _ _ _ _ _ _ _ _ _ _ _ _ _ _ _ _ _ _ _ _ (cb_ rZ HB) rX.out (cb_ oP HB) oL.out (cb_ qE HB) rU.out (cb_ jY HB) oQ.out A4.out).mono ?_); rintro e w19 ⟨rfl, hb⟩; refine ⟨_, rfl, ?_⟩; replace BA := aAt BA hb; replace HB := bs_ hb; (try clear hb)))
   go_ret
   exact ⟨er_, bb_⟩

def uQ.f (k : Nat) (l0 : List S68) (aX : Int) (bD : ByteArray) (bJ bX : Int) (bY bV : Int) (eX eY : ByteArray) (dU dB : List S39) (dC : Int) (aY : List S42) : Option Int := (iK.f k l0 aX bD bJ bX bY bV eX eY dU dB dC aY 0).bind fun bCR => (some bCR)
theorem uQ.calls (k : Nat) (A0 : Option Addr) (c0 : Nat) (l0 : List S68) (aX : Int) (bD : ByteArray) (bJ bX : Int) (bY bV : Int) (eX eY : ByteArray) (iX : Option Addr) (iY : Nat) (dU : List S39) (iA : Option Addr) (gZ : Nat) (dB : List S39) (dC : Int) (fP : Option Addr) (fG : Nat) (aY : List S42) (r : Int) (w : World) (hr0 : Kd.C BC w A0 l0.length l0) (hc0 : l0.length ≤ c0) (nM : Kd.C jX w iX dU.length dU) (nP : dU.length ≤ iY) (mK : Kd.C jX w iA dB.length dB) (mM : dB.length ≤ gZ) (kJ : Kd.C E5 w fP aY.length aY) (kI : aY.length ≤ fG) (h : uQ.f k l0 aX bD bJ bX bY bV eX eY dU dB dC aY = some r) :
  Calls Tryz.prog 10 #[.slice A0 l0.length c0, .agg #[.int .i64 aX, .string bD, .int .i64 bJ, .int .i64 bX, .int .i64 bY, .int .i64 bV, .string eX, .string eY, .slice iX dU.length iY, .slice iA dB.length gZ, .int .i64 dC, .slice fP aY.length fG]] w fun e w' => e = .returned (.int .i64 r) ∧ Below w.heap.size w w' := by
 have MW := Tryz.underlying42
 have jY := am_ hr0
 have oQ := am_ hc0
 clear hr0 hc0
 have rZ := am_ nM
 have rX := am_ nP
 clear nM nP
 have oP := am_ mK
 have oL := am_ mM
 clear mK mM
 have qE := am_ kJ
 have rU := am_ kI
 clear kJ kI
 have HB := am_ (Below.refl w.heap.size w)
 have H : ((iK.f k l0 aX bD bJ bX bY bV eX eY dU dB dC aY 0).bind fun bCR => (some bCR)) = some r := h
 clear h
 replace H := aBp H
 obtain ⟨bCR, wN, H⟩ := H
 try dsimp only at H
 have A3 := am_ wN
 clear wN
 obtain rfl := Option.some.inj H
 go_enter Tryz.func10, Tryz.ntmps10
 go_wp2_with (first | ((with_reducible refine aAc (N := 3) rfl ?_); refine bx_ 3 #[.int .i64 aX, .string bD, .int .i64 bJ, .int .i64 bX, .int .i64 bY, .int .i64 bV, .string eX, .string eY, .slice iX dU.length iY, .slice iA dB.length gZ, .int .i64 dC, .slice fP aY.length fG] 42 ?_; intro d94 hg w4 hbox hb; have b5A := am_ (hbox); have dAZ := gw_ hg; replace HB := bs_ hb; clear hb hbox hg; obtain ⟨IG, JR, JN, a6C, a2V, a2T, a9I, a2U, a2Y, a2W, VA, XF, IK, IW, IX, aB2, a8V, aAC, a8O, aBX, aB7, a9Z, W9, XJ⟩ := aBw b5A) | ((with_reducible refine aAa (f := 27) rfl ?_); refine aBh (some 7) Tryz.func27 #[.slice A0 l0.length c0, .agg #[.int .i64 aX, .string bD, .int .i64 bJ, .int .i64 bX, .int .i64 bY, .int .i64 bV, .string eX, .string eY, .slice iX dU.length iY, .slice iA dB.length gZ, .int .i64 dC, .slice fP aY.length fG], .int .i64 0] ?_; (with_reducible refine (iK.calls _ _ _ _ _ _ _ _ _ _ _ _ _ _ _ _ _ _ _ _ _ _ _ _ _ (cb_ jY HB) oQ.out (cb_ rZ HB) rX.out (cb_ oP HB) oL.out (cb_ qE HB) rU.out A3.out).mono ?_); rintro e w6 ⟨rfl, hb⟩; refine ⟨_, rfl, ?_⟩; replace b5A := aAt b5A hb; replace HB := bs_ hb; (try clear hb)))
 go_ret
 exact ⟨er_, bb_⟩

def pW.f (k : Nat) (l0 : List S68) (aX : Int) (bD : ByteArray) (bJ bX : Int) (bY bV : Int) (eX eY : ByteArray) (dU dB : List S39) (dC : Int) (aY : List S42) : Option Bool := (uQ.f k l0 aX bD bJ bX bY bV eX eY dU dB dC aY).bind fun bOG => (some (decide (bOG ≥ 0)))
theorem pW.calls (k : Nat) (A0 : Option Addr) (c0 : Nat) (l0 : List S68) (aX : Int) (bD : ByteArray) (bJ bX : Int) (bY bV : Int) (eX eY : ByteArray) (iX : Option Addr) (iY : Nat) (dU : List S39) (iA : Option Addr) (gZ : Nat) (dB : List S39) (dC : Int) (fP : Option Addr) (fG : Nat) (aY : List S42) (r : Bool) (w : World) (hr0 : Kd.C BC w A0 l0.length l0) (hc0 : l0.length ≤ c0) (nM : Kd.C jX w iX dU.length dU) (nP : dU.length ≤ iY) (mK : Kd.C jX w iA dB.length dB) (mM : dB.length ≤ gZ) (kJ : Kd.C E5 w fP aY.length aY) (kI : aY.length ≤ fG) (h : pW.f k l0 aX bD bJ bX bY bV eX eY dU dB dC aY = some r) :
  Calls Tryz.prog 43 #[.slice A0 l0.length c0, .agg #[.int .i64 aX, .string bD, .int .i64 bJ, .int .i64 bX, .int .i64 bY, .int .i64 bV, .string eX, .string eY, .slice iX dU.length iY, .slice iA dB.length gZ, .int .i64 dC, .slice fP aY.length fG]] w fun e w' => e = .returned (.bool r) ∧ Below w.heap.size w w' := by
 have MW := Tryz.underlying42
 have jY := am_ hr0
 have oQ := am_ hc0
 clear hr0 hc0
 have rZ := am_ nM
 have rX := am_ nP
 clear nM nP
 have oP := am_ mK
 have oL := am_ mM
 clear mK mM
 have qE := am_ kJ
 have rU := am_ kI
 clear kJ kI
 have HB := am_ (Below.refl w.heap.size w)
 have H : ((uQ.f k l0 aX bD bJ bX bY bV eX eY dU dB dC aY).bind fun bOG => (some (decide (bOG ≥ 0)))) = some r := h
 clear h
 replace H := aBp H
 obtain ⟨bOG, wN, H⟩ := H
 try dsimp only at H
 have A3 := am_ wN
 clear wN
 obtain rfl := Option.some.inj H
 go_enter Tryz.func43, Tryz.ntmps43
 go_wp2_with (first | ((with_reducible refine aAc (N := 3) rfl ?_); refine bx_ 3 #[.int .i64 aX, .string bD, .int .i64 bJ, .int .i64 bX, .int .i64 bY, .int .i64 bV, .string eX, .string eY, .slice iX dU.length iY, .slice iA dB.length gZ, .int .i64 dC, .slice fP aY.length fG] 42 ?_; intro d88 hg w4 hbox hb; have b3T := am_ (hbox); have d7J := gw_ hg; replace HB := bs_ hb; clear hb hbox hg; obtain ⟨IG, JR, JN, a6C, a2V, a2T, a9I, a2U, a2Y, a2W, VA, XF, IK, IW, IX, aB2, a8V, aAC, a8O, aBX, aB7, a9Z, W9, XJ⟩ := aBw b3T) | ((with_reducible refine aAa (f := 10) rfl ?_); refine aBh (some 7) Tryz.func10 #[.slice A0 l0.length c0, .agg #[.int .i64 aX, .string bD, .int .i64 bJ, .int .i64 bX, .int .i64 bY, .int .i64 bV, .string eX, .string eY, .slice iX dU.length iY, .slice iA dB.length gZ, .int .i64 dC, .slice fP aY.length fG]] ?_; (with_reducible refine (uQ.calls _ _ _ _ _ _ _ _ _ _ _ _ _ _ _ _ _ _ _ _ _ _ _ _ (cb_ jY HB) oQ.out (cb_ rZ HB) rX.out (cb_ oP HB) oL.out (cb_ qE HB) rU.out A3.out).mono ?_); rintro e w6 ⟨rfl, hb⟩; refine ⟨_, rfl, ?_⟩; replace b3T := aAt b3T hb; replace HB := bs_ hb; (try clear hb)))
 go_ret
 exact ⟨er_, bb_⟩

def tH.f (k : Nat) (aA : ByteArray) (aD : Int) (aH : ByteArray) (aK aJ : Int) (aI bC : Int) (bB lQ : ByteArray) (aV fT : List S39) (iQ : Int) (fU : List S42) (jA : Int) (gK : List S126) (l1 : List S68) : Option Bool := (eH.f l1 aA).bind fun b7A => (if b7A.2.2.2 = true then (some false) else ((pW.f k l1 aD aH aK aJ aI bC bB lQ aV fT iQ fU).bind fun bHA => (some bHA)))
theorem tH.calls (k B : Nat) (aA : ByteArray) (aD : Int) (aH : ByteArray) (aK aJ : Int) (aI bC : Int) (bB lQ : ByteArray) (bZ : Option Addr) (cB : Nat) (aV : List S39) (kG : Option Addr) (kE : Nat) (fT : List S39) (iQ : Int) (kH : Option Addr) (kF : Nat) (fU : List S42) (jA : Int) (kM : Option Addr) (kP : Nat) (gK : List S126) (A1 : Option Addr) (c1 : Nat) (l1 : List S68) (r : Bool) (w : World) (hBl : B < w.heap.size) (hcB : w.cell? ⟨B, 0, none⟩ = some (.slice A1 l1.length c1)) (jG : Kd.C jX w bZ aV.length aV) (jH : aV.length ≤ cB) (yV : Kd.C jX w kG fT.length fT) (AJ : fT.length ≤ kE) (zJ : Kd.C E5 w kH fU.length fU) (yY : fU.length ≤ kF) (AU : Kd.C jU w kM gK.length gK) (zM : gK.length ≤ kP) (hr1 : Kd.C BC w A1 l1.length l1) (hc1 : l1.length ≤ c1) (h : tH.f k aA aD aH aK aJ aI bC bB lQ aV fT iQ fU jA gK l1 = some r) :
  Calls Tryz.prog 41 #[.agg #[.string aA, .int .i64 aD, .string aH, .int .i64 aK, .int .i64 aJ, .int .i64 aI, .int .i64 bC, .string bB, .string lQ, .slice bZ aV.length cB, .slice kG fT.length kE, .int .i64 iQ, .slice kH fU.length kF, .int .i64 jA, .slice kM gK.length kP], .pointer (some ⟨B, 0, none⟩)] w fun e w' => e = .returned (.bool r) ∧ Below w.heap.size w w' := by
 obtain ⟨b6K, aJ8, MW⟩ := cAY
 have iR := am_ jG
 have iZ := am_ jH
 clear jG jH
 have zC := am_ yV
 have zK := am_ AJ
 clear yV AJ
 have AV := am_ zJ
 have zA := am_ yY
 clear zJ yY
 have IZ := am_ AU
 have J7 := am_ zM
 clear AU zM
 have HR1 := am_ hr1
 have MZ := am_ hc1
 clear hr1 hc1
 have HcB := am_ hcB
 have HBl := am_ hBl
 clear hcB hBl
 have HB := am_ (Below.refl w.heap.size w)
 have H : ((eH.f l1 aA).bind fun b7A => (if b7A.2.2.2 = true then (some false) else ((pW.f k l1 aD aH aK aJ aI bC bB lQ aV fT iQ fU).bind fun bHA => (some bHA)))) = some r := h
 clear h
 replace H := aBp H
 obtain ⟨⟨d3J, d70, d2Z, d2S⟩, wN, H⟩ := H
 try dsimp only at H
 have A3 := am_ wN
 clear wN
 by_cases c4 : d2S = true
 ·subst c4
  rw [if_pos rfl] at H; obtain rfl := Option.some.inj H
  go_enter Tryz.func41, Tryz.ntmps41
  go_wp2_with (first | ((with_reducible refine aAc (N := 2) rfl ?_); refine bx_ 2 #[.string aA, .int .i64 aD, .string aH, .int .i64 aK, .int .i64 aJ, .int .i64 aI, .int .i64 bC, .string bB, .string lQ, .slice bZ aV.length cB, .slice kG fT.length kE, .int .i64 iQ, .slice kH fU.length kF, .int .i64 jA, .slice kM gK.length kP] 83 ?_; intro a18 hg w5 hbox hb; have qX := am_ (hbox); have b3L := gw_ hg; replace HB := bs_ hb; clear hb hbox hg; obtain ⟨kW, kU, oU, pG, oK, oJ, oO, b6O, bA8, b21, aNV, aRQ, cV7, cVT, cRC, kY, lH, oW, oV, p9, pI, oH, bA0, b6C, b4H, aRS, aLL, cTR, cSW, cVZ⟩ := aHm qX; have d5G := (HB.out.cell (p := ⟨B, 0, none⟩) HBl.out).trans HcB.out) | ((with_reducible refine aAa (f := 42) rfl ?_); refine aBh (some 10) Tryz.func42 #[.slice A1 l1.length c1, .string aA] ?_; (with_reducible refine (eH.calls (fun k_ => k_ < w.heap.size) _ _ _ _ _ _ _ _ _ (Kd.aSp MZ.out (Kd.aEo (Kd.C_F AB HR1.out) bb_)) A3.out).mono ?_); rintro e w7 ⟨d6V, rfl, ho0, hb⟩; refine ⟨_, rfl, ?_⟩; have NA := am_ (Kd.aGo (Kd.aEa (ok' := fun k_ => k_ ≠ a18) ho0 (fun k_ hk_ => Or.elim hk_ (fun hs_ => fun e_ => Nat.not_le.2 hs_ (by rw [e_]; exact b3L.out)) (fun hn_ => (Kd.aKv (g := a18) (o := .cells #[.string aA, .int .i64 aD, .string aH, .int .i64 aK, .int .i64 aJ, .int .i64 aI, .int .i64 bC, .string bB, .string lQ, .slice bZ aV.length cB, .slice kG fT.length kE, .int .i64 iQ, .slice kH fU.length kF, .int .i64 jA, .slice kM gK.length kP] 83 (0, 0)) (aBx qX.out) k_ hn_)))) (aAj bb_)); replace qX := aAt qX hb; replace HB := bs_ hb; clear hb ho0) | ((with_reducible refine aAc (N := 4) rfl ?_); refine bx_ 4 #[.string (⟨#[]⟩ : ByteArray), .int .i64 0, .slice none 0 0] 68 ?_; intro aCW hg w8 hbox hb; have a0W := am_ (hbox); have b1Y := gw_ hg; have LD := nl_ hg qX; have SN := ng_ hg qX; replace NA := am_ (Kd.aDq (Kd.aEz (v3_ NA.out) aCW (Nat.le_of_eq hg.symm)) hb); replace qX := aAt qX hb; replace HB := bs_ hb; clear hb hbox hg; have bSZ := SN.out; have bV2 := LD.out; obtain ⟨lN, lL, nI, lM, lJ, nD⟩ := b3_ a0W; obtain ⟨dE6, dCO, d3M⟩ := Kd.aGw NA.out; subst d3M; have cM6 := (HB.out.cell (p := ⟨B, 0, none⟩) HBl.out).trans HcB.out; have bWB := Nat.ne_of_gt (Nat.lt_of_lt_of_le HBl.out b1Y.out); have cJ3 := Ne.symm bWB))
  go_ret
  exact ⟨er_, bb_⟩
 ·replace c4 := Bool.eq_false_iff.mpr c4
  subst c4; replace H := aZf H; replace H := aBp H; obtain ⟨bHA, HY, H⟩ := H
  try dsimp only at H
  have KZ := am_ HY; clear HY; obtain rfl := Option.some.inj H
  go_enter Tryz.func41, Tryz.ntmps41
  go_wp2_with (first | ((with_reducible refine aAc (N := 2) rfl ?_); refine bx_ 2 #[.string aA, .int .i64 aD, .string aH, .int .i64 aK, .int .i64 aJ, .int .i64 aI, .int .i64 bC, .string bB, .string lQ, .slice bZ aV.length cB, .slice kG fT.length kE, .int .i64 iQ, .slice kH fU.length kF, .int .i64 jA, .slice kM gK.length kP] 83 ?_; intro a18 hg ZO hbox hb; have qX := am_ (hbox); have b3L := gw_ hg; replace HB := bs_ hb; clear hb hbox hg; obtain ⟨nZ, nV, rD, vX, vP, vZ, wB, D9, CG, BL, wS, wM, aF1, aHO, aC4, oG, nW, rA, wH, vJ, vG, vC, CL, BI, DJ, wX, wO, aE2, aDW, aDR⟩ := aHm qX; have d5G := (HB.out.cell (p := ⟨B, 0, none⟩) HBl.out).trans HcB.out) | ((with_reducible refine aAa (f := 42) rfl ?_); refine aBh (some 10) Tryz.func42 #[.slice A1 l1.length c1, .string aA] ?_; (with_reducible refine (eH.calls (fun k_ => k_ < w.heap.size) _ _ _ _ _ _ _ _ _ (Kd.aSp MZ.out (Kd.aEo (Kd.C_F AB HR1.out) bb_)) A3.out).mono ?_); rintro e w15 ⟨d6V, rfl, ho0, hb⟩; refine ⟨_, rfl, ?_⟩; have NA := am_ (Kd.aGo (Kd.aEa (ok' := fun k_ => k_ ≠ a18) ho0 (fun k_ hk_ => Or.elim hk_ (fun hs_ => fun e_ => Nat.not_le.2 hs_ (by rw [e_]; exact b3L.out)) (fun hn_ => (Kd.aKv (g := a18) (o := .cells #[.string aA, .int .i64 aD, .string aH, .int .i64 aK, .int .i64 aJ, .int .i64 aI, .int .i64 bC, .string bB, .string lQ, .slice bZ aV.length cB, .slice kG fT.length kE, .int .i64 iQ, .slice kH fU.length kF, .int .i64 jA, .slice kM gK.length kP] 83 (0, 0)) (aBx qX.out) k_ hn_)))) (aAj bb_)); replace qX := aAt qX hb; replace HB := bs_ hb; clear hb ho0) | ((with_reducible refine aAc (N := 4) rfl ?_); refine bx_ 4 #[.string (⟨#[]⟩ : ByteArray), .int .i64 0, .slice none 0 0] 68 ?_; intro aCW hg w16 hbox hb; have a0W := am_ (hbox); have b1Y := gw_ hg; have LD := nl_ hg qX; have SN := ng_ hg qX; replace NA := am_ (Kd.aDq (Kd.aEz (v3_ NA.out) aCW (Nat.le_of_eq hg.symm)) hb); replace qX := aAt qX hb; replace HB := bs_ hb; clear hb hbox hg; have bPP := SN.out; have bP9 := LD.out; obtain ⟨tY, tJ, yJ, tK, sO, yP⟩ := b3_ a0W; obtain ⟨a4Y, a8R, bVI⟩ := Kd.aGw NA.out; subst bVI; obtain ⟨yD, xU, CJ, GG, FM, FH, F4, O4, PR, RG, IP, JQ, b2Y, b5J, b4V, yN, yL, BR, FT, F5, FX, GM, Q3, OE, OJ, IR, JB, b4S, b3C, b8A⟩ := aHm qX; have cM6 := (HB.out.cell (p := ⟨B, 0, none⟩) HBl.out).trans HcB.out; have bWB := Nat.ne_of_gt (Nat.lt_of_lt_of_le HBl.out b1Y.out); have cJ3 := Ne.symm bWB) | (go_at_call 43; (with_reducible refine (pW.calls _ _ _ _ _ _ _ _ _ _ _ _ _ _ _ _ _ _ _ _ _ _ _ _ (Kd.aAp HR1.out bb_) MZ.out (Kd.aAp iR.out bb_) iZ.out (Kd.aAp zC.out bb_) zK.out (Kd.aAp AV.out bb_) zA.out KZ.out).mono ?_); rintro e w21 ⟨rfl, hb⟩; have n0_ := am_ (Kd.aDq (v3_ (Kd.aEa (aYw (Kd.aEa NA.out (fun k_ hk => (⟨hk, hk.2⟩ : _ ∧ k_ ≠ aCW))) (fun _ hk => hk.2)) (fun _ h_ => h_.1))) hb); have n1_ := am_ (aBe (g := a18) (o := .cells #[.string aA, .int .i64 aD, .string aH, .int .i64 aK, .int .i64 aJ, .int .i64 aI, .int .i64 bC, .string bB, .string lQ, .slice bZ aV.length cB, .slice kG fT.length kE, .int .i64 iQ, .slice kH fU.length kF, .int .i64 jA, .slice kM gK.length kP] 83 (0, 0)) (aYu LD (aBx qX.out)) hb); have pO := am_ (aBe (g := aCW) (o := .cells #[.string d3J, .int .i64 d70, .slice a4Y d2Z.length a8R] 68 (0, 0)) (aWh (aBx a0W.out)) hb); have n3_ := bs_ hb; clear NA; clear qX; clear a0W; clear HB; have NA := n0_; have qX := n1_; have a0W := pO; have HB := n3_; clear n0_ n1_ pO n3_; (try clear hb)))
  go_ret
  exact ⟨er_, bb_⟩

def aFo (k : Nat) (l0 : List S68) (x : S83) : Option Bool := tH.f k x.f0 x.f1.f0 x.f1.f1 x.f1.f2.f0 x.f1.f2.f1 x.f1.f2.f2.f0 x.f1.f2.f2.f1 x.f1.f2.f2.f2 x.f1.f2.f3 x.f1.f2.f4 x.f1.f3 x.f1.f4 x.f1.f5 x.f2.f0 x.f2.f1 l0
def nK.f (k : Nat) (l0 : List S68) (l1 : List S83) : Option Bool :=
  (pQ.f k l0).bind fun t => if t = true then (if (l1.length : Int) ≤ 10 then ((fF.f k l1).bind fun ns => (fB.f k ns).bind fun t2 => if t2 = true then aHn (aFo k l0) l1 else some false) else some false) else some false
theorem aQd (k : Nat) (A1 : Option Addr) (c1 : Nat) (l0 : List S68) (B : Nat) (xs : List S83) (w : World) (hB : B < w.heap.size) (hr1 : Kd.C BC w A1 l0.length l0) (hc1 : l0.length ≤ c1) (hc : w.cell? ⟨B, 0, none⟩ = some (.slice A1 l0.length c1)) :
    CB Tryz.prog X8 (fun cs => Value.agg cs.toArray) 41 #[.pointer (some ⟨B, 0, none⟩)] (aFo k l0) xs w := by
  intro W x cs b hb _ hK hf
  obtain ⟨A9, c9, RJ, c10, KZ, c12, SH, c14, rfl, l9, g9, l10, g10, l12, g12, l14, g14⟩ := RZ hK
  have hc' : W.cell? ⟨B, 0, none⟩ = some (.slice A1 l0.length c1) := (hb.cell (p := ⟨B, 0, none⟩) hB).trans hc
  have hBW : B < W.heap.size := Nat.lt_of_lt_of_le hB hb.size
  refine Calls.mono (show Calls Tryz.prog 41 #[.agg #[.string x.f0, .int .i64 x.f1.f0, .string x.f1.f1, .int .i64 x.f1.f2.f0, .int .i64 x.f1.f2.f1, .int .i64 x.f1.f2.f2.f0, .int .i64 x.f1.f2.f2.f1, .string x.f1.f2.f2.f2, .string x.f1.f2.f3, .slice A9 x.f1.f2.f4.length c9, .slice RJ x.f1.f3.length c10, .int .i64 x.f1.f4, .slice KZ x.f1.f5.length c12, .int .i64 x.f2.f0, .slice SH x.f2.f1.length c14], .pointer (some ⟨B, 0, none⟩)] W _ from tH.calls k B x.f0 x.f1.f0 x.f1.f1 x.f1.f2.f0 x.f1.f2.f1 x.f1.f2.f2.f0 x.f1.f2.f2.f1 x.f1.f2.f2.f2 x.f1.f2.f3 A9 c9 x.f1.f2.f4 RJ c10 x.f1.f3 x.f1.f4 KZ c12 x.f1.f5 x.f2.f0 SH c14 x.f2.f1 A1 c1 l0 b W hBW hc' g9 l9 g10 l10 g12 l12 g14 l14 (Kd.aAp hr1 hb) hc1 hf) ?_
  rintro e w' ⟨rfl, hb⟩
  exact ⟨rfl, hb⟩
theorem nK.calls (k : Nat) (A0 : Option Addr) (c0 : Nat) (l0 : List S68) (A1 : Option Addr) (c1 : Nat) (l1 : List S83) (r : Bool) (w : World) (hr0 : Kd.C BC w A0 l0.length l0) (hc0 : l0.length ≤ c0) (hr1 : Kd.C X8 w A1 l1.length l1) (hc1 : l1.length ≤ c1) (h : nK.f k l0 l1 = some r) :
    Calls Tryz.prog 16 #[.slice A0 l0.length c0, .slice A1 l1.length c1] w fun e w' => e = .returned (.bool r) ∧ Below w.heap.size w w' := by
  unfold nK.f at h
  obtain ⟨t, ht, h⟩ := Option.bind_eq_some_iff.1 h
  have jY := am_ hr0
  have oQ := am_ hc0
  have HR1 := am_ hr1
  have MZ := am_ hc1
  have HT := am_ ht
  clear hr0 hc0 hr1 hc1 ht
  have HB := am_ (Below.refl w.heap.size w)
  cases t with
  | false =>
    rw [if_neg (by decide)] at h
    obtain rfl := Option.some.inj h
    clear h
    go_enter Tryz.func16, Tryz.ntmps16
    go_wp2_with (first
      | ((with_reducible refine aAc (N := 2) rfl ?_); refine bx_ 2 #[.slice A0 l0.length c0] 34 ?_; intro g hg w5 hbox hb; have BK := am_ hbox; have hcz := (cell_of_block hbox 0).trans rfl; replace HB := bs_ hb; clear hb hbox hg)
      | (go_at_call 37; refine (pQ.calls k A0 c0 l0 false _ (Kd.aAp jY.out HB.out) oQ.out HT.out).mono ?_; rintro e w7 ⟨rfl, hb⟩; replace HB := bs_ hb; clear hb))
    go_ret
    exact ⟨er_, bb_⟩
  | true =>
    rw [if_pos rfl] at h
    by_cases hl : (l1.length : Int) ≤ 10
    case neg =>
      rw [if_neg hl] at h
      obtain rfl := Option.some.inj h
      have hd : decide ((l1.length : Int) ≤ 10) = false := decide_eq_false hl
      clear h hl
      go_enter Tryz.func16, Tryz.ntmps16
      go_wp2_with (first
        | ((with_reducible refine aAc (N := 2) rfl ?_); refine bx_ 2 #[.slice A0 l0.length c0] 34 ?_; intro g hg w5 hbox hb; have BK := am_ hbox; have hcz := (cell_of_block hbox 0).trans rfl; replace HB := bs_ hb; clear hb hbox hg)
        | (go_at_call 37; refine (pQ.calls k A0 c0 l0 true _ (Kd.aAp jY.out HB.out) oQ.out HT.out).mono ?_; rintro e w7 ⟨rfl, hb⟩; replace HB := bs_ hb; clear hb))
      go_ret
      exact ⟨er_, bb_⟩
    rw [if_pos hl] at h
    have hd : decide ((l1.length : Int) ≤ 10) = true := decide_eq_true hl
    obtain ⟨ns, hns, h⟩ := Option.bind_eq_some_iff.1 h
    obtain ⟨t2, ht2, h⟩ := Option.bind_eq_some_iff.1 h
    have HNS := am_ hns
    have HT2 := am_ ht2
    clear hns ht2 hl
    have eg : ∀ args w, (callFunc 41 args).run Tryz.prog w = .ok (.enter 41 args) w := enters_of Tryz.func41 (by kernel_rfl) rfl
    cases t2 with
    | false =>
      rw [if_neg (by decide)] at h
      obtain rfl := Option.some.inj h
      clear h
      go_enter Tryz.func16, Tryz.ntmps16
      go_wp2_with (first
        | ((with_reducible refine aAc (N := 2) rfl ?_); refine bx_ 2 #[.slice A0 l0.length c0] 34 ?_; intro g hg w5 hbox hb; have BK := am_ hbox; have hcz := (cell_of_block hbox 0).trans rfl; replace HB := bs_ hb; clear hb hbox hg)
        | (go_at_call 37; refine (pQ.calls k A0 c0 l0 true _ (Kd.aAp jY.out HB.out) oQ.out HT.out).mono ?_; rintro e w7 ⟨rfl, hb⟩; replace BK := aAt BK hb; replace HB := bs_ hb; clear hb)
        | (go_at_call 39; refine (fF.calls k A1 c1 l1 ns _ (Kd.aAp HR1.out HB.out) MZ.out HNS.out).mono ?_; rintro e w8 ⟨v0, rfl, hR, hb⟩; obtain ⟨A, c, rfl, hAc, hC⟩ := Kd.aFu hR; have HA := am_ hAc; have HCN := am_ hC; replace BK := aAt BK hb; replace HB := bs_ hb; clear hb hR hAc hC)
        | (go_at_call 38; refine (fB.calls k A c ns false _ HCN.out HA.out HT2.out).mono ?_; rintro e w9 ⟨rfl, hb⟩; replace BK := aAt BK hb; replace HB := bs_ hb; clear hb))
      go_ret
      exact ⟨er_, bb_⟩
    | true =>
      rw [if_pos rfl] at h
      have HALL := am_ h
      clear h
      go_enter Tryz.func16, Tryz.ntmps16
      go_wp2_with (first
        | ((with_reducible refine aAc (N := 2) rfl ?_); refine bx_ 2 #[.slice A0 l0.length c0] 34 ?_; intro g hg w5 hbox hb; have BK := am_ hbox; have hcz := (cell_of_block hbox 0).trans rfl; replace HB := bs_ hb; clear hb hbox hg)
        | (go_at_call 37; refine (pQ.calls k A0 c0 l0 true _ (Kd.aAp jY.out HB.out) oQ.out HT.out).mono ?_; rintro e w7 ⟨rfl, hb⟩; replace BK := aAt BK hb; replace HB := bs_ hb; clear hb)
        | (go_at_call 39; refine (fF.calls k A1 c1 l1 ns _ (Kd.aAp HR1.out HB.out) MZ.out HNS.out).mono ?_; rintro e w8 ⟨v0, rfl, hR, hb⟩; obtain ⟨A, c, rfl, hAc, hC⟩ := Kd.aFu hR; have HA := am_ hAc; have HCN := am_ hC; replace BK := aAt BK hb; replace HB := bs_ hb; clear hb hR hAc hC)
        | (go_at_call 38; refine (fB.calls k A c ns true _ HCN.out HA.out HT2.out).mono ?_; rintro e w9 ⟨rfl, hb⟩; replace BK := aAt BK hb; replace HB := bs_ hb; clear hb)
        | (go_at_call 40; refine (NJ.calls (aFo k l0) 41 #[.pointer (some ⟨g, 0, none⟩)] eg A1 c1 l1 r _ (Kd.aAp HR1.out HB.out) (aQd k A0 c0 l0 g l1 _ (aEt BK.out) (Kd.aAp jY.out HB.out) oQ.out ((cell_of_block BK.out 0).trans rfl)) HALL.out).mono ?_; rintro e w10 ⟨rfl, hb⟩; replace HB := bs_ hb; clear hb))
      go_ret
      exact ⟨er_, bb_⟩

def cK.l0 (E_ : Int → Int → Int → Int → ByteArray → ByteArray → (List S39) → Int → Int → Int → Int → ByteArray → ByteArray → (List S39) → Option Bool) : Nat → List S39 → List S39 → Int → Option Bool
 | 0, _, _, _ => none
 | k + 1, x0, x1, x5 => if x5 < (x0.length : Int) then (if 0 ≤ x5 then (if x5 < (x1.length : Int) then ((E_ ((aAh x0 x5).f0) ((aAh x0 x5).f1) ((aAh x0 x5).f2.f0) ((aAh x0 x5).f2.f1) ((aAh x0 x5).f2.f2) ((aAh x0 x5).f3) ((aAh x0 x5).f4) ((aAh x1 x5).f0) ((aAh x1 x5).f1) ((aAh x1 x5).f2.f0) ((aAh x1 x5).f2.f1) ((aAh x1 x5).f2.f2) ((aAh x1 x5).f3) ((aAh x1 x5).f4)).bind fun bEM => (if bEM = true then (cK.l0 E_ k x0 x1 (wrap64 (x5 + 1))) else (some false))) else (none)) else (none)) else (some true)
def cK.f (E_ : Int → Int → Int → Int → ByteArray → ByteArray → (List S39) → Int → Int → Int → Int → ByteArray → ByteArray → (List S39) → Option Bool) (k : Nat) (l0 l1 : List S39) : Option Bool := if (l0.length : Int) = (l1.length : Int) then (cK.l0 E_ k l0 l1 0) else (some false)
def cK.T6 : Bool × List (List Nat × List Nat) := (true, [([], []), ([], []), ([0, 1], [0, 1]), ([2], [2]), ([], []), ([], []), ([4, 5], [4, 5]), ([6], [6]), ([3, 7], [3, 7]), ([8], [8])])
def cK.B6 : List Nat := [0, 0, 3, 7, 0, 0, 48, 112, 255, 511]
theorem cK.BF : aEr .any (opsOf Tryz.f30 6) = cK.T6 := by kernel_rfl
theorem cK.pY : aBu cK.T6.2 cK.B6 = true := by kernel_rfl
theorem cK.calls (E_ : Int → Int → Int → Int → ByteArray → ByteArray → (List S39) → Int → Int → Int → Int → ByteArray → ByteArray → (List S39) → Option Bool) (UC : ∀ (aA aD : Int) (aH aK : Int) (aJ aI : ByteArray) (dY : Option Addr) (dR : Nat) (aQ : List S39) (aX bD : Int) (bJ bX : Int) (bY bV : ByteArray) (uL : Option Addr) (uV : Nat) (fZ : List S39) (r : Bool) (w : World) (gH : Kd.C jX w dY aQ.length aQ) (gI : aQ.length ≤ dR) (H5 : Kd.C jX w uL fZ.length fZ) (GZ : fZ.length ≤ uV) (h : E_ aA aD aH aK aJ aI aQ aX bD bJ bX bY bV fZ = some r), Calls Tryz.prog 29 #[.agg #[.int .i64 aA, .int .i64 aD, .int .i64 aH, .int .i64 aK, .string aJ, .string aI, .slice dY aQ.length dR], .agg #[.int .i64 aX, .int .i64 bD, .int .i64 bJ, .int .i64 bX, .string bY, .string bV, .slice uL fZ.length uV]] w fun e w' => e = .returned (.bool r) ∧ Below w.heap.size w w') (k : Nat) (A0 : Option Addr) (c0 : Nat) (l0 : List S39) (A1 : Option Addr) (c1 : Nat) (l1 : List S39) (r : Bool) (w : World) (hr0 : Kd.C jX w A0 l0.length l0) (hc0 : l0.length ≤ c0) (hr1 : Kd.C jX w A1 l1.length l1) (hc1 : l1.length ≤ c1) (h : cK.f E_ k l0 l1 = some r) :
  Calls Tryz.prog 30 #[.slice A0 l0.length c0, .slice A1 l1.length c1] w fun e w' => e = .returned (.bool r) ∧ Below w.heap.size w w' := by
 have zH := Tryz.underlying39
 have jY := am_ hr0
 have oQ := am_ hc0
 clear hr0 hc0
 have HR1 := am_ hr1
 have MZ := am_ hc1
 clear hr1 hc1
 have HB := am_ (Below.refl w.heap.size w)
 have H : (if (l0.length : Int) = (l1.length : Int) then (cK.l0 E_ k l0 l1 0) else (some false)) = some r := h
 clear h
 by_cases c3 : (l0.length : Int) = (l1.length : Int)
 ·rw [if_pos c3] at H
  have fC : ((l0.length : Int) == (l1.length : Int)) = true := beq_iff_eq.mpr c3; have lI : ((l0.length : Int) != (l1.length : Int)) = false := bne_eq_false_iff_eq.mpr c3; (have IC : (l0.length == l1.length) = true := by first | simpa using c3 | (simp at c3 ⊢; omega)); clear c3; have H' := am_ H; clear H
  go_enter Tryz.func30, Tryz.ntmps30
  go_wp2
  go_loopg [5] k (fun kq v5 w' => ∃ (aC : Int), v5 = .int .i64 aC ∧ Aside0 (cK.l0 E_ kq l0 l1 aC = some r) ∧ Aside0 (kq ≤ k) ∧ Aside0 (Below w.heap.size w w'))
  case atStart => exact ⟨(0), rs_, H', ⟨Nat.le_refl _⟩, ⟨bb_⟩⟩
  case round =>
   clear H'; (try clear c1); (try clear p2); (try clear c3); (try clear fC); (try clear lI); (try clear IC); obtain ⟨aC, rfl, HA, jK, HB⟩ := hrel
   cases gk with
   | zero => exact absurd HA.out (by simp [cK.l0])
   | succ k1 =>
    have H := HA.out; clear HA; simp only [cK.l0] at H
    by_cases c4 : aC < (l0.length : Int)
    ·rw [if_pos c4] at H
     have iB := decide_eq_true c4; clear c4
     by_cases c5 : 0 ≤ aC
     ·rw [if_pos c5] at H
      have pV := decide_eq_true c5; clear c5
      by_cases c6 : aC < (l1.length : Int)
      ·rw [if_pos c6] at H
       have mY := decide_eq_true c6; clear c6; replace H := aBp H; obtain ⟨bEM, ZI, H⟩ := H
       try dsimp only at H
       have A7 := am_ ZI; clear ZI; have gY := am_ H; clear H
       try go_wp2
       replace HB := am_ (aAm HB.out); (have bTE : 0 ≤ (aC : Int) := oa_); (have bTP : aC < (l0.length : Int) := oa_); obtain ⟨d91, bTX, bXP, d3Z, aAO, a2H, a7Z, a8N, a4E, a3O, aB1, aLI, aUF⟩ := I5 jY.out aC bTE bTP; cases d3Z; obtain ⟨bF0, bL8, bHX, bAU, bDK, bCG, bNZ⟩ := aSm HB aAO a2H a7Z a8N a4E a3O aB1; have aQF := am_ aUF; have bJQ := am_ aLI; clear aUF aLI; replace bTE := eq_true bTE; replace bTP := eq_true bTP; (have bSU : 0 ≤ (aC : Int) := oa_); (have c1Y : aC < (l1.length : Int) := oa_); obtain ⟨d97, bT5, bXQ, d2F, a8A, a4G, a7A, a2O, a5G, a3T, a4C, aP3, aTQ⟩ := I5 HR1.out aC bSU c1Y; cases d2F; obtain ⟨bNE, bJM, bI3, bHW, bHN, bBJ, bE4⟩ := aSm HB a8A a4G a7A a2O a5G a3T a4C; have aP4 := am_ aTQ; have bCO := am_ aP3; clear aTQ aP3; replace bSU := eq_true bSU; replace c1Y := eq_true c1Y; (refine st_ 10 (hc_ ((hb_ HB aAO)) (hc_ ((hb_ HB a2H)) (hc_ ((hb_ HB a7Z)) (hc_ ((hb_ HB a8N)) (hc_ ((hb_ HB a4E)) (hc_ ((hb_ HB a3O)) (hc_ ((hb_ HB aB1)) (hc_ ((hb_ HB a8A)) (hc_ ((hb_ HB a4G)) (hc_ ((hb_ HB a7A)) (hc_ ((hb_ HB a2O)) (hc_ ((hb_ HB a5G)) (hc_ ((hb_ HB a3T)) (hf_ ((hb_ HB a4C)))))))))))))))) (fun hHeld => ?_); refine aAv cK.BF cK.pY (fun HT_ HW_ => ?_))
       generalize wr.drew = w9 at HB aQF aP4 bF0 bL8 bHX bAU bDK bCG bNZ bNE bJM bI3 bHW bHN bBJ bE4 hHeld ⊢
       iterate 3 (refine pl_ ?_)
       refine aBa 4 (bm 10 23) ?_; refine aBa 5 (bm 10 55) ?_; refine aBa 6 (bm 10 119) ?_; refine aCx 3 (tf 7 3) ?_; refine tl_ ?_; refine aCm (i := 8) (N := some 25) (tf 9 1) (h := fun K hK => ?_); refine gs_ Tryz.func29 #[.agg #[.int .i64 ((aAh l0 aC).f0), .int .i64 ((aAh l0 aC).f1), .int .i64 ((aAh l0 aC).f2.f0), .int .i64 ((aAh l0 aC).f2.f1), .string ((aAh l0 aC).f2.f2), .string ((aAh l0 aC).f3), .slice bTX ((aAh l0 aC).f4).length bXP], .agg #[.int .i64 ((aAh l1 aC).f0), .int .i64 ((aAh l1 aC).f1), .int .i64 ((aAh l1 aC).f2.f0), .int .i64 ((aAh l1 aC).f2.f1), .string ((aAh l1 aC).f2.f2), .string ((aAh l1 aC).f3), .slice bT5 ((aAh l1 aC).f4).length bXQ]] ?_; (with_reducible refine (UC ((aAh l0 aC).f0) ((aAh l0 aC).f1) ((aAh l0 aC).f2.f0) ((aAh l0 aC).f2.f1) ((aAh l0 aC).f2.f2) ((aAh l0 aC).f3) _ _ ((aAh l0 aC).f4) ((aAh l1 aC).f0) ((aAh l1 aC).f1) ((aAh l1 aC).f2.f0) ((aAh l1 aC).f2.f1) ((aAh l1 aC).f2.f2) ((aAh l1 aC).f3) _ _ ((aAh l1 aC).f4) bEM _ ?fM ?fO ?iN ?j3 A7.out).mono ?_); (case fM => exact cb_ aQF HB); (case fO => exact bJQ.out); (case iN => exact cb_ aP4 HB); (case j3 => exact bCO.out); rintro e w10 ⟨rfl, hb⟩; refine ⟨_, rfl, ?_⟩; replace HB := bs_ hb; (try clear hb); refine hK.out _ _ (hc_ (hb_ HB aAO) (hc_ (hb_ HB a2H) (hc_ (hb_ HB a7Z) (hc_ (hb_ HB a8N) (hc_ (hb_ HB a4E) (hc_ (hb_ HB a3O) (hc_ (hb_ HB aB1) (hc_ (hb_ HB a8A) (hc_ (hb_ HB a4G) (hc_ (hb_ HB a7A) (hc_ (hb_ HB a2O) (hc_ (hb_ HB a5G) (hc_ (hb_ HB a3T) (hf_ (hb_ HB a4C))))))))))))))) (fun hHeld => ?_); clear hK K; refine nm_ ?_; refine aBa 9 (tf 10 0) ?_; have H := gY.out; clear gY
       by_cases c8 : bEM = true
       ·subst c8
        rw [if_pos rfl] at H; have H' := am_ H; clear H; refine dn_ ?_
        try go_wp2
        go_roundg k1
        case measure => have := jK.out; omega
        case rel => exact ⟨(wrap64 (aC + 1)), rs_, H', ⟨by have := jK.out; omega⟩, ⟨bb_⟩⟩
       ·replace c8 := Bool.eq_false_iff.mpr c8
        subst c8; replace H := aZf H; obtain rfl := Option.some.inj H; refine dn_ ?_
        try go_wp2
        go_ret
        exact ⟨er_, bb_⟩
      ·rw [if_neg c6] at H
       exact nn_ H
     ·rw [if_neg c5] at H
      exact nn_ H
    ·rw [if_neg c4] at H
     have iB := decide_eq_false c4; clear c4; obtain rfl := Option.some.inj H
     go_wp2
     go_ret
     exact ⟨er_, bb_⟩
 ·rw [if_neg c3] at H
  have fC : ((l0.length : Int) == (l1.length : Int)) = false := beq_eq_false_iff_ne.mpr c3; have lI : ((l0.length : Int) != (l1.length : Int)) = true := bne_iff_ne.mpr c3; (have IC : (l0.length == l1.length) = false := by first | simpa using c3 | (simp at c3 ⊢; omega)); obtain rfl := Option.some.inj H
  go_enter Tryz.func30, Tryz.ntmps30
  go_wp2
  go_ret
  exact ⟨er_, bb_⟩

def dW.f : Nat → Int → Int → Int → Int → ByteArray → ByteArray → (List S39) → Int → Int → Int → Int → ByteArray → ByteArray → (List S39) → Option Bool
 | 0, _, _, _, _, _, _, _, _, _, _, _, _, _, _ => none
 | k + 1, aA, aD, aH, aK, aJ, aI, aQ, aX, bD, bJ, bX, bY, bV, fZ => if aA = aX then (if aD = bD then ((iH.f aH aK aJ bJ bX bY).bind fun b9J => (if b9J = true then (if aI.toList = bV.toList then ((cK.f (dW.f k) k aQ fZ).bind fun b72 => (if b72 = true then (some true) else (some false))) else (some false)) else (some false))) else (some false)) else (some false)
theorem dW.calls : ∀ (k : Nat) (aA aD : Int) (aH aK : Int) (aJ aI : ByteArray) (dY : Option Addr) (dR : Nat) (aQ : List S39) (aX bD : Int) (bJ bX : Int) (bY bV : ByteArray) (uL : Option Addr) (uV : Nat) (fZ : List S39) (r : Bool) (w : World) (gH : Kd.C jX w dY aQ.length aQ) (gI : aQ.length ≤ dR) (H5 : Kd.C jX w uL fZ.length fZ) (GZ : fZ.length ≤ uV) (h : dW.f k aA aD aH aK aJ aI aQ aX bD bJ bX bY bV fZ = some r),
  Calls Tryz.prog 29 #[.agg #[.int .i64 aA, .int .i64 aD, .int .i64 aH, .int .i64 aK, .string aJ, .string aI, .slice dY aQ.length dR], .agg #[.int .i64 aX, .int .i64 bD, .int .i64 bJ, .int .i64 bX, .string bY, .string bV, .slice uL fZ.length uV]] w fun e w' => e = .returned (.bool r) ∧ Below w.heap.size w w' := by
 intro k
 induction k with
 | zero =>
  intro aA aD aH aK aJ aI dY dR aQ aX bD bJ bX bY bV uL uV fZ r w gH gI H5 GZ h; exact absurd h (by simp [dW.f])
 | succ k ih_ =>
  intro aA aD aH aK aJ aI dY dR aQ aX bD bJ bX bY bV uL uV fZ r w gH gI H5 GZ h; obtain ⟨zH, QU⟩ := aSC; have jZ := am_ gH; have lG := am_ gI; clear gH gI; have a1P := am_ H5; have aHS := am_ GZ; clear H5 GZ; have HB := am_ (Below.refl w.heap.size w); (have H : (if aA = aX then (if aD = bD then ((iH.f aH aK aJ bJ bX bY).bind fun b9J => (if b9J = true then (if aI.toList = bV.toList then ((cK.f (dW.f k) k aQ fZ).bind fun b72 => (if b72 = true then (some true) else (some false))) else (some false)) else (some false))) else (some false)) else (some false)) = some r := h); clear h
  by_cases c3 : aA = aX
  ·rw [if_pos c3] at H
   have fC : (aA == aX) = true := beq_iff_eq.mpr c3; have lI : (aA != aX) = false := bne_eq_false_iff_eq.mpr c3; clear c3
   by_cases c4 : aD = bD
   ·rw [if_pos c4] at H
    have iB : (aD == bD) = true := beq_iff_eq.mpr c4; have a0A : (aD != bD) = false := bne_eq_false_iff_eq.mpr c4; clear c4; replace H := aBp H; obtain ⟨b9J, U9, H⟩ := H
    try dsimp only at H
    have A5 := am_ U9; clear U9
    by_cases c6 : b9J = true
    ·subst c6
     rw [if_pos rfl] at H
     by_cases c7 : aI.toList = bV.toList
     ·rw [if_pos c7] at H
      have iV : (aI.toList == bV.toList) = true := beq_iff_eq.mpr c7; have zG : (aI.toList != bV.toList) = false := bne_eq_false_iff_eq.mpr c7; clear c7; replace H := aBp H; obtain ⟨b72, RY, H⟩ := H
      try dsimp only at H
      have A8 := am_ RY; clear RY
      by_cases c9 : b72 = true
      ·subst c9
       rw [if_pos rfl] at H; obtain rfl := Option.some.inj H
       go_enter Tryz.func29, Tryz.ntmps29
       go_wp2_with (first | ((with_reducible refine aAc (N := 2) rfl ?_); refine bx_ 2 #[.int .i64 aA, .int .i64 aD, .int .i64 aH, .int .i64 aK, .string aJ, .string aI, .slice dY aQ.length dR] 39 ?_; intro aFV hg w10 hbox hb; have iF := am_ (hbox); have aCM := gw_ hg; replace HB := bs_ hb; clear hb hbox hg) | ((with_reducible refine aAc (N := 3) rfl ?_); refine bx_ 3 #[.int .i64 aX, .int .i64 bD, .int .i64 bJ, .int .i64 bX, .string bY, .string bV, .slice uL fZ.length uV] 39 ?_; intro aD7 hg jI hbox hb; have mW := am_ (hbox); have aEU := gw_ hg; have mU := nl_ hg iF; have mP := ng_ hg iF; replace iF := aAt iF hb; replace HB := bs_ hb; clear hb hbox hg; have d9V := mU.out; have d9B := mP.out; obtain ⟨MU, KT, a9N, a3W, aAV, a88, a8F, LB, KJ, aBT, a6Z, a9W, a2F, a6K⟩ := b7_ iF; obtain ⟨nZ, nV, rD, vX, vP, vZ, wB, oG, nW, rA, wH, vJ, vG, vC⟩ := b7_ mW) | ((with_reducible refine aAa (f := 55) rfl ?_); refine aBh (some 19) Tryz.func55 #[.agg #[.int .i64 aH, .int .i64 aK, .string aJ], .agg #[.int .i64 bJ, .int .i64 bX, .string bY]] ?_; (with_reducible refine (iH.calls _ _ _ _ _ _ _ _ A5.out).mono ?_); rintro e w15 ⟨rfl, hb⟩; refine ⟨_, rfl, ?_⟩; replace iF := aAt iF hb; replace mW := aAt mW hb; replace HB := bs_ hb; (try clear hb); obtain ⟨rH, rO, tQ, vE, vW, vY, wG, rE, rP, sP, vN, vM, vT, wF⟩ := b7_ iF; obtain ⟨uE, sJ, vV, BQ, DN, D7, C9, tL, uF, vS, BP, DU, CS, BU⟩ := b7_ mW) | ((with_reducible refine aAa (f := 30) rfl ?_); refine aBh (some 30) Tryz.func30 #[.slice dY aQ.length dR, .slice uL fZ.length uV] ?_; (with_reducible refine (cK.calls _ ih_ _ _ _ _ _ _ _ _ _ (cb_ jZ HB) lG.out (cb_ a1P HB) aHS.out A8.out).mono ?_); rintro e w18 ⟨rfl, hb⟩; refine ⟨_, rfl, ?_⟩; replace iF := aAt iF hb; replace mW := aAt mW hb; replace HB := bs_ hb; (try clear hb)))
       go_ret
       exact ⟨er_, bb_⟩
      ·replace c9 := Bool.eq_false_iff.mpr c9
       subst c9; replace H := aZf H; obtain rfl := Option.some.inj H
       go_enter Tryz.func29, Tryz.ntmps29
       go_wp2_with (first | ((with_reducible refine aAc (N := 2) rfl ?_); refine bx_ 2 #[.int .i64 aA, .int .i64 aD, .int .i64 aH, .int .i64 aK, .string aJ, .string aI, .slice dY aQ.length dR] 39 ?_; intro aFV hg w19 hbox hb; have iF := am_ (hbox); have aCM := gw_ hg; replace HB := bs_ hb; clear hb hbox hg) | ((with_reducible refine aAc (N := 3) rfl ?_); refine bx_ 3 #[.int .i64 aX, .int .i64 bD, .int .i64 bJ, .int .i64 bX, .string bY, .string bV, .slice uL fZ.length uV] 39 ?_; intro aD7 hg w20 hbox hb; have mW := am_ (hbox); have aEU := gw_ hg; have mU := nl_ hg iF; have mP := ng_ hg iF; replace iF := aAt iF hb; replace HB := bs_ hb; clear hb hbox hg; have dAV := mU.out; have d93 := mP.out; obtain ⟨SA, QX, VJ, a7O, a3G, aBR, a1Z, R4, R9, WE, aBB, aAT, a6G, a9O⟩ := b7_ iF; obtain ⟨tC, sH, sQ, yO, yK, xO, yS, sK, sV, sS, xM, yQ, xK, yM⟩ := b7_ mW) | ((with_reducible refine aAa (f := 55) rfl ?_); refine aBh (some 19) Tryz.func55 #[.agg #[.int .i64 aH, .int .i64 aK, .string aJ], .agg #[.int .i64 bJ, .int .i64 bX, .string bY]] ?_; (with_reducible refine (iH.calls _ _ _ _ _ _ _ _ A5.out).mono ?_); rintro e w24 ⟨rfl, hb⟩; refine ⟨_, rfl, ?_⟩; replace iF := aAt iF hb; replace mW := aAt mW hb; replace HB := bs_ hb; (try clear hb); obtain ⟨uG, uH, vI, FP, F9, GN, FW, sI, tO, vQ, G8, GI, F6, FL⟩ := b7_ iF; obtain ⟨XE, WS, a7V, a2C, a4A, a7T, a8H, UU, UK, a6F, a3Z, a5A, a7P, a9K⟩ := b7_ mW) | ((with_reducible refine aAa (f := 30) rfl ?_); refine aBh (some 30) Tryz.func30 #[.slice dY aQ.length dR, .slice uL fZ.length uV] ?_; (with_reducible refine (cK.calls _ ih_ _ _ _ _ _ _ _ _ _ (cb_ jZ HB) lG.out (cb_ a1P HB) aHS.out A8.out).mono ?_); rintro e w27 ⟨rfl, hb⟩; refine ⟨_, rfl, ?_⟩; replace iF := aAt iF hb; replace mW := aAt mW hb; replace HB := bs_ hb; (try clear hb)))
       go_ret
       exact ⟨er_, bb_⟩
     ·rw [if_neg c7] at H
      have iV : (aI.toList == bV.toList) = false := beq_eq_false_iff_ne.mpr c7; have zG : (aI.toList != bV.toList) = true := bne_iff_ne.mpr c7; obtain rfl := Option.some.inj H
      go_enter Tryz.func29, Tryz.ntmps29
      go_wp2_with (first | ((with_reducible refine aAc (N := 2) rfl ?_); refine bx_ 2 #[.int .i64 aA, .int .i64 aD, .int .i64 aH, .int .i64 aK, .string aJ, .string aI, .slice dY aQ.length dR] 39 ?_; intro aFV hg w28 hbox hb; have iF := am_ (hbox); have aCM := gw_ hg; replace HB := bs_ hb; clear hb hbox hg) | ((with_reducible refine aAc (N := 3) rfl ?_); refine bx_ 3 #[.int .i64 aX, .int .i64 bD, .int .i64 bJ, .int .i64 bX, .string bY, .string bV, .slice uL fZ.length uV] 39 ?_; intro aD7 hg w29 hbox hb; have mW := am_ (hbox); have aEU := gw_ hg; have mU := nl_ hg iF; have mP := ng_ hg iF; replace iF := aAt iF hb; replace HB := bs_ hb; clear hb hbox hg; have d7Y := mU.out; have d8M := mP.out; obtain ⟨bE5, bJ2, bNM, bC1, bBV, bME, bL5, bNI, bLK, bLX, bB2, bOD, bB9, bJL⟩ := b7_ iF; obtain ⟨M6, ME, ML, LU, LA, KO, LX, LZ, M7, KF, MP, MM, KH, LY⟩ := b7_ mW) | ((with_reducible refine aAa (f := 55) rfl ?_); refine aBh (some 19) Tryz.func55 #[.agg #[.int .i64 aH, .int .i64 aK, .string aJ], .agg #[.int .i64 bJ, .int .i64 bX, .string bY]] ?_; (with_reducible refine (iH.calls _ _ _ _ _ _ _ _ A5.out).mono ?_); rintro e w33 ⟨rfl, hb⟩; refine ⟨_, rfl, ?_⟩; replace iF := aAt iF hb; replace mW := aAt mW hb; replace HB := bs_ hb; (try clear hb); obtain ⟨bIO, bCL, bGK, bNT, bDI, bMF, bAZ, bN5, bMS, bEU, bE0, bEV, bLS, bM3⟩ := b7_ iF; obtain ⟨aA5, a8P, a4R, a4H, aBU, a7S, aAY, a7M, a7J, a3V, a5V, a90, a3S, a7L⟩ := b7_ mW))
      go_ret
      exact ⟨er_, bb_⟩
    ·replace c6 := Bool.eq_false_iff.mpr c6
     subst c6; replace H := aZf H; obtain rfl := Option.some.inj H
     go_enter Tryz.func29, Tryz.ntmps29
     go_wp2_with (first | ((with_reducible refine aAc (N := 2) rfl ?_); refine bx_ 2 #[.int .i64 aA, .int .i64 aD, .int .i64 aH, .int .i64 aK, .string aJ, .string aI, .slice dY aQ.length dR] 39 ?_; intro aFV hg w36 hbox hb; have iF := am_ (hbox); have aCM := gw_ hg; replace HB := bs_ hb; clear hb hbox hg) | ((with_reducible refine aAc (N := 3) rfl ?_); refine bx_ 3 #[.int .i64 aX, .int .i64 bD, .int .i64 bJ, .int .i64 bX, .string bY, .string bV, .slice uL fZ.length uV] 39 ?_; intro aD7 hg w37 hbox hb; have mW := am_ (hbox); have aEU := gw_ hg; have mU := nl_ hg iF; have mP := ng_ hg iF; replace iF := aAt iF hb; replace HB := bs_ hb; clear hb hbox hg; have cBY := mU.out; have c7E := mP.out; obtain ⟨aO0, aVE, aV2, aUV, aSJ, aLY, aUN, aOZ, aSD, aQ9, aX7, aY8, aTY, aKN⟩ := b7_ iF; obtain ⟨a7U, aBS, aAZ, a8Z, aBE, a7D, a7H, a6O, a4K, a5P, a4X, a5Z, a4I, aBQ⟩ := b7_ mW) | ((with_reducible refine aAa (f := 55) rfl ?_); refine aBh (some 19) Tryz.func55 #[.agg #[.int .i64 aH, .int .i64 aK, .string aJ], .agg #[.int .i64 bJ, .int .i64 bX, .string bY]] ?_; (with_reducible refine (iH.calls _ _ _ _ _ _ _ _ A5.out).mono ?_); rintro e w41 ⟨rfl, hb⟩; refine ⟨_, rfl, ?_⟩; replace iF := aAt iF hb; replace mW := aAt mW hb; replace HB := bs_ hb; (try clear hb)))
     go_ret
     exact ⟨er_, bb_⟩
   ·rw [if_neg c4] at H
    have iB : (aD == bD) = false := beq_eq_false_iff_ne.mpr c4; have a0A : (aD != bD) = true := bne_iff_ne.mpr c4; obtain rfl := Option.some.inj H
    go_enter Tryz.func29, Tryz.ntmps29
    go_wp2_with (first | ((with_reducible refine aAc (N := 2) rfl ?_); refine bx_ 2 #[.int .i64 aA, .int .i64 aD, .int .i64 aH, .int .i64 aK, .string aJ, .string aI, .slice dY aQ.length dR] 39 ?_; intro aFV hg w42 hbox hb; have iF := am_ (hbox); have aCM := gw_ hg; replace HB := bs_ hb; clear hb hbox hg) | ((with_reducible refine aAc (N := 3) rfl ?_); refine bx_ 3 #[.int .i64 aX, .int .i64 bD, .int .i64 bJ, .int .i64 bX, .string bY, .string bV, .slice uL fZ.length uV] 39 ?_; intro aD7 hg w43 hbox hb; have mW := am_ (hbox); have aEU := gw_ hg; have mU := nl_ hg iF; have mP := ng_ hg iF; replace iF := aAt iF hb; replace HB := bs_ hb; clear hb hbox hg; have dB7 := mU.out; have dAL := mP.out; obtain ⟨aMC, aVU, aR1, aSF, aRX, aLH, aPP, aND, aPU, aVN, aNI, aRM, aM2, aRE⟩ := b7_ iF; obtain ⟨aPJ, aXM, aX9, aUS, aKD, aWJ, aR7, aUB, aQN, aT4, aQP, aVR, aO2, aX0⟩ := b7_ mW))
    go_ret
    exact ⟨er_, bb_⟩
  ·rw [if_neg c3] at H
   have fC : (aA == aX) = false := beq_eq_false_iff_ne.mpr c3; have lI : (aA != aX) = true := bne_iff_ne.mpr c3; obtain rfl := Option.some.inj H
   go_enter Tryz.func29, Tryz.ntmps29
   go_wp2_with (first | ((with_reducible refine aAc (N := 2) rfl ?_); refine bx_ 2 #[.int .i64 aA, .int .i64 aD, .int .i64 aH, .int .i64 aK, .string aJ, .string aI, .slice dY aQ.length dR] 39 ?_; intro aFV hg w47 hbox hb; have iF := am_ (hbox); have aCM := gw_ hg; replace HB := bs_ hb; clear hb hbox hg) | ((with_reducible refine aAc (N := 3) rfl ?_); refine bx_ 3 #[.int .i64 aX, .int .i64 bD, .int .i64 bJ, .int .i64 bX, .string bY, .string bV, .slice uL fZ.length uV] 39 ?_; intro aD7 hg w48 hbox hb; have mW := am_ (hbox); have aEU := gw_ hg; have mU := nl_ hg iF; have mP := ng_ hg iF; replace iF := aAt iF hb; replace HB := bs_ hb; clear hb hbox hg; have cKY := mU.out; have cEG := mP.out; obtain ⟨aQJ, aR2, aW0, aV1, aL0, aRR, aSL, aXL, aLV, aT1, aX3, aPF, aXU, aXZ⟩ := b7_ iF; obtain ⟨a5Q, a9L, aUU, aW8, aQK, aSG, aUJ, a2B, a3K, aO3, aQB, aWR, aNO, aXV⟩ := b7_ mW))
   go_ret
   exact ⟨er_, bb_⟩
def dP.l0 (E_ : Int → ByteArray → Int → Int → Int → Int → ByteArray → ByteArray → (List S39) → (List S39) → Int → (List S42) → Int → ByteArray → Int → Int → Int → Int → ByteArray → ByteArray → (List S39) → (List S39) → Int → (List S42) → Option Bool) : Nat → List S42 → List S42 → Int → Option Bool
 | 0, _, _, _ => none
 | k + 1, x0, x1, x5 => if x5 < (x0.length : Int) then (if 0 ≤ x5 then (if x5 < (x1.length : Int) then ((E_ ((aAe x0 x5).f0) ((aAe x0 x5).f1) ((aAe x0 x5).f2.f0) ((aAe x0 x5).f2.f1) ((aAe x0 x5).f2.f2.f0) ((aAe x0 x5).f2.f2.f1) ((aAe x0 x5).f2.f2.f2) ((aAe x0 x5).f2.f3) ((aAe x0 x5).f2.f4) ((aAe x0 x5).f3) ((aAe x0 x5).f4) ((aAe x0 x5).f5) ((aAe x1 x5).f0) ((aAe x1 x5).f1) ((aAe x1 x5).f2.f0) ((aAe x1 x5).f2.f1) ((aAe x1 x5).f2.f2.f0) ((aAe x1 x5).f2.f2.f1) ((aAe x1 x5).f2.f2.f2) ((aAe x1 x5).f2.f3) ((aAe x1 x5).f2.f4) ((aAe x1 x5).f3) ((aAe x1 x5).f4) ((aAe x1 x5).f5)).bind fun bDU => (if bDU = true then (dP.l0 E_ k x0 x1 (wrap64 (x5 + 1))) else (some false))) else (none)) else (none)) else (some true)
def dP.f (E_ : Int → ByteArray → Int → Int → Int → Int → ByteArray → ByteArray → (List S39) → (List S39) → Int → (List S42) → Int → ByteArray → Int → Int → Int → Int → ByteArray → ByteArray → (List S39) → (List S39) → Int → (List S42) → Option Bool) (k : Nat) (l0 l1 : List S42) : Option Bool := if (l0.length : Int) = (l1.length : Int) then (dP.l0 E_ k l0 l1 0) else (some false)
def dP.T6 : Bool × List (List Nat × List Nat) := (true, [([], []), ([], []), ([0, 1], [0, 1]), ([2], [2]), ([], []), ([], []), ([4, 5], [4, 5]), ([6], [6]), ([3, 7], [3, 7]), ([8], [8])])
def dP.B6 : List Nat := [0, 0, 3, 7, 0, 0, 48, 112, 255, 511]
theorem dP.BF : aEr .any (opsOf Tryz.f31 6) = dP.T6 := by kernel_rfl
theorem dP.pY : aBu dP.T6.2 dP.B6 = true := by kernel_rfl
theorem dP.calls (E_ : Int → ByteArray → Int → Int → Int → Int → ByteArray → ByteArray → (List S39) → (List S39) → Int → (List S42) → Int → ByteArray → Int → Int → Int → Int → ByteArray → ByteArray → (List S39) → (List S39) → Int → (List S42) → Option Bool) (UC : ∀ (aA : Int) (aD : ByteArray) (aH aK : Int) (aJ aI : Int) (bC bB : ByteArray) (dN : Option Addr) (dQ : Nat) (bG : List S39) (bZ : Option Addr) (cB : Nat) (aV : List S39) (aW : Int) (bP : Option Addr) (bM : Nat) (aM : List S42) (aX : Int) (bD : ByteArray) (bJ bX : Int) (bY bV : Int) (eX eY : ByteArray) (iX : Option Addr) (iY : Nat) (dU : List S39) (iA : Option Addr) (gZ : Nat) (dB : List S39) (dC : Int) (fP : Option Addr) (fG : Nat) (aY : List S42) (r : Bool) (w : World) (mG : Kd.C jX w dN bG.length bG) (lV : bG.length ≤ dQ) (jG : Kd.C jX w bZ aV.length aV) (jH : aV.length ≤ cB) (jS : Kd.C E5 w bP aM.length aM) (jN : aM.length ≤ bM) (nM : Kd.C jX w iX dU.length dU) (nP : dU.length ≤ iY) (mK : Kd.C jX w iA dB.length dB) (mM : dB.length ≤ gZ) (kJ : Kd.C E5 w fP aY.length aY) (kI : aY.length ≤ fG) (h : E_ aA aD aH aK aJ aI bC bB bG aV aW aM aX bD bJ bX bY bV eX eY dU dB dC aY = some r), Calls Tryz.prog 12 #[.agg #[.int .i64 aA, .string aD, .int .i64 aH, .int .i64 aK, .int .i64 aJ, .int .i64 aI, .string bC, .string bB, .slice dN bG.length dQ, .slice bZ aV.length cB, .int .i64 aW, .slice bP aM.length bM], .agg #[.int .i64 aX, .string bD, .int .i64 bJ, .int .i64 bX, .int .i64 bY, .int .i64 bV, .string eX, .string eY, .slice iX dU.length iY, .slice iA dB.length gZ, .int .i64 dC, .slice fP aY.length fG]] w fun e w' => e = .returned (.bool r) ∧ Below w.heap.size w w') (k : Nat) (A0 : Option Addr) (c0 : Nat) (l0 : List S42) (A1 : Option Addr) (c1 : Nat) (l1 : List S42) (r : Bool) (w : World) (hr0 : Kd.C E5 w A0 l0.length l0) (hc0 : l0.length ≤ c0) (hr1 : Kd.C E5 w A1 l1.length l1) (hc1 : l1.length ≤ c1) (h : dP.f E_ k l0 l1 = some r) :
  Calls Tryz.prog 31 #[.slice A0 l0.length c0, .slice A1 l1.length c1] w fun e w' => e = .returned (.bool r) ∧ Below w.heap.size w w' := by
 have MW := Tryz.underlying42
 have jY := am_ hr0
 have oQ := am_ hc0
 clear hr0 hc0
 have HR1 := am_ hr1
 have MZ := am_ hc1
 clear hr1 hc1
 have HB := am_ (Below.refl w.heap.size w)
 have H : (if (l0.length : Int) = (l1.length : Int) then (dP.l0 E_ k l0 l1 0) else (some false)) = some r := h
 clear h
 by_cases c3 : (l0.length : Int) = (l1.length : Int)
 ·rw [if_pos c3] at H
  have fC : ((l0.length : Int) == (l1.length : Int)) = true := beq_iff_eq.mpr c3; have lI : ((l0.length : Int) != (l1.length : Int)) = false := bne_eq_false_iff_eq.mpr c3; (have IC : (l0.length == l1.length) = true := by first | simpa using c3 | (simp at c3 ⊢; omega)); clear c3; have H' := am_ H; clear H
  go_enter Tryz.func31, Tryz.ntmps31
  go_wp2
  go_loopg [5] k (fun kq v5 w' => ∃ (aC : Int), v5 = .int .i64 aC ∧ Aside0 (dP.l0 E_ kq l0 l1 aC = some r) ∧ Aside0 (kq ≤ k) ∧ Aside0 (Below w.heap.size w w'))
  case atStart => exact ⟨(0), rs_, H', ⟨Nat.le_refl _⟩, ⟨bb_⟩⟩
  case round =>
   clear H'; (try clear c1); (try clear p2); (try clear c3); (try clear fC); (try clear lI); (try clear IC); obtain ⟨aC, rfl, HA, jK, HB⟩ := hrel
   cases gk with
   | zero => exact absurd HA.out (by simp [dP.l0])
   | succ k1 =>
    have H := HA.out; clear HA; simp only [dP.l0] at H
    by_cases c4 : aC < (l0.length : Int)
    ·rw [if_pos c4] at H
     have iB := decide_eq_true c4; clear c4
     by_cases c5 : 0 ≤ aC
     ·rw [if_pos c5] at H
      have pV := decide_eq_true c5; clear c5
      by_cases c6 : aC < (l1.length : Int)
      ·rw [if_pos c6] at H
       have mY := decide_eq_true c6; clear c6; replace H := aBp H; obtain ⟨bDU, ZI, H⟩ := H
       try dsimp only at H
       have A7 := am_ ZI; clear ZI; have gY := am_ H; clear H
       try go_wp2
       replace HB := am_ (aAm HB.out); (have bYL : 0 ≤ (aC : Int) := oa_); (have bU1 : aC < (l0.length : Int) := oa_); obtain ⟨dB9, c1W, c1N, bWN, bRO, bG5, bOI, d3U, a9G, a8S, a5K, aB0, aBL, a6I, aBW, a2P, a9D, a5I, Y5, ZU, aQS, aTC, aPA, aWD, aE6, aEQ⟩ := YA jY.out aC bYL bU1; cases d3U; obtain ⟨bE3, bFQ, bC7, bLI, bGS, bNU, bI8, bOJ, bM8, bJG, b8Y, b0L⟩ := aNq HB a9G a8S a5K aB0 aBL a6I aBW a2P a9D a5I Y5 ZU; have aOI := am_ aTC; have bLG := am_ aQS; clear aTC aQS; have aMJ := am_ aWD; have bIH := am_ aPA; clear aWD aPA; have aEF := am_ aEQ; have b8U := am_ aE6; clear aEQ aE6; replace bYL := eq_true bYL; replace bU1 := eq_true bU1; (have bW8 : 0 ≤ (aC : Int) := oa_); (have bUB : aC < (l1.length : Int) := oa_); obtain ⟨d8V, c1M, bWC, bVH, bU0, bN3, bMZ, d7A, a7B, a5N, a9X, a8Q, aB3, a6Q, a4J, a94, a2I, a6T, YC, XZ, aOD, aQY, aMY, aT7, aHV, aCC⟩ := YA HR1.out aC bW8 bUB; cases d7A; obtain ⟨bMP, bDV, bMB, bD7, bEA, bFR, bNY, bO7, bKB, bJH, b7S, b4M⟩ := aNq HB a7B a5N a9X a8Q aB3 a6Q a4J a94 a2I a6T YC XZ; have aXR := am_ aQY; have bH8 := am_ aOD; clear aQY aOD; have aQ5 := am_ aT7; have bIP := am_ aMY; clear aT7 aMY; have aH4 := am_ aCC; have b56 := am_ aHV; clear aCC aHV; replace bW8 := eq_true bW8; replace bUB := eq_true bUB; (refine st_ 10 (hc_ ((hb_ HB a9G)) (hc_ ((hb_ HB a8S)) (hc_ ((hb_ HB a5K)) (hc_ ((hb_ HB aB0)) (hc_ ((hb_ HB aBL)) (hc_ ((hb_ HB a6I)) (hc_ ((hb_ HB aBW)) (hc_ ((hb_ HB a2P)) (hc_ ((hb_ HB a9D)) (hc_ ((hb_ HB a5I)) (hc_ ((hb_ HB Y5)) (hc_ ((hb_ HB ZU)) (hc_ ((hb_ HB a7B)) (hc_ ((hb_ HB a5N)) (hc_ ((hb_ HB a9X)) (hc_ ((hb_ HB a8Q)) (hc_ ((hb_ HB aB3)) (hc_ ((hb_ HB a6Q)) (hc_ ((hb_ HB a4J)) (hc_ ((hb_ HB a94)) (hc_ ((hb_ HB a2I)) (hc_ ((hb_ HB a6T)) (hc_ ((hb_ HB YC)) (hf_ ((hb_ HB XZ)))))))))))))))))))))))))) (fun hHeld => ?_); refine aAv dP.BF dP.pY (fun HT_ HW_ => ?_))
       generalize wr.drew = w9 at HB aEF aOI aMJ aH4 aXR aQ5 bE3 bFQ b8Y b0L bC7 bLI bGS bNU bI8 bOJ bM8 bJG bMP bDV b7S b4M bMB bD7 bEA bFR bNY bO7 bKB bJH hHeld ⊢
       iterate 3 (refine pl_ ?_)
       refine aBa 4 (bm 10 23) ?_; refine aBa 5 (bm 10 55) ?_; refine aBa 6 (bm 10 119) ?_; refine aCx 3 (tf 7 3) ?_; refine tl_ ?_; refine aCm (i := 8) (N := some 25) (tf 9 1) (h := fun K hK => ?_); refine gs_ Tryz.func12 #[.agg #[.int .i64 ((aAe l0 aC).f0), .string ((aAe l0 aC).f1), .int .i64 ((aAe l0 aC).f2.f0), .int .i64 ((aAe l0 aC).f2.f1), .int .i64 ((aAe l0 aC).f2.f2.f0), .int .i64 ((aAe l0 aC).f2.f2.f1), .string ((aAe l0 aC).f2.f2.f2), .string ((aAe l0 aC).f2.f3), .slice c1W ((aAe l0 aC).f2.f4).length c1N, .slice bWN ((aAe l0 aC).f3).length bRO, .int .i64 ((aAe l0 aC).f4), .slice bG5 ((aAe l0 aC).f5).length bOI], .agg #[.int .i64 ((aAe l1 aC).f0), .string ((aAe l1 aC).f1), .int .i64 ((aAe l1 aC).f2.f0), .int .i64 ((aAe l1 aC).f2.f1), .int .i64 ((aAe l1 aC).f2.f2.f0), .int .i64 ((aAe l1 aC).f2.f2.f1), .string ((aAe l1 aC).f2.f2.f2), .string ((aAe l1 aC).f2.f3), .slice c1M ((aAe l1 aC).f2.f4).length bWC, .slice bVH ((aAe l1 aC).f3).length bU0, .int .i64 ((aAe l1 aC).f4), .slice bN3 ((aAe l1 aC).f5).length bMZ]] ?_; (with_reducible refine (UC ((aAe l0 aC).f0) ((aAe l0 aC).f1) ((aAe l0 aC).f2.f0) ((aAe l0 aC).f2.f1) ((aAe l0 aC).f2.f2.f0) ((aAe l0 aC).f2.f2.f1) ((aAe l0 aC).f2.f2.f2) ((aAe l0 aC).f2.f3) _ _ ((aAe l0 aC).f2.f4) _ _ ((aAe l0 aC).f3) ((aAe l0 aC).f4) _ _ ((aAe l0 aC).f5) ((aAe l1 aC).f0) ((aAe l1 aC).f1) ((aAe l1 aC).f2.f0) ((aAe l1 aC).f2.f1) ((aAe l1 aC).f2.f2.f0) ((aAe l1 aC).f2.f2.f1) ((aAe l1 aC).f2.f2.f2) ((aAe l1 aC).f2.f3) _ _ ((aAe l1 aC).f2.f4) _ _ ((aAe l1 aC).f3) ((aAe l1 aC).f4) _ _ ((aAe l1 aC).f5) bDU _ ?fM ?fO ?iN ?j3 ?zO ?zL ?PU ?OL ?cJY ?c1H ?bYV ?bVM A7.out).mono ?_); (case fM => exact cb_ aOI HB); (case fO => exact bLG.out); (case iN => exact cb_ aMJ HB); (case j3 => exact bIH.out); (case zO => exact cb_ aEF HB); (case zL => exact b8U.out); (case PU => exact cb_ aXR HB); (case OL => exact bH8.out); (case cJY => exact cb_ aQ5 HB); (case c1H => exact bIP.out); (case bYV => exact cb_ aH4 HB); (case bVM => exact b56.out); rintro e w10 ⟨rfl, hb⟩; refine ⟨_, rfl, ?_⟩; replace HB := bs_ hb; (try clear hb); refine hK.out _ _ (hc_ (hb_ HB a9G) (hc_ (hb_ HB a8S) (hc_ (hb_ HB a5K) (hc_ (hb_ HB aB0) (hc_ (hb_ HB aBL) (hc_ (hb_ HB a6I) (hc_ (hb_ HB aBW) (hc_ (hb_ HB a2P) (hc_ (hb_ HB a9D) (hc_ (hb_ HB a5I) (hc_ (hb_ HB Y5) (hc_ (hb_ HB ZU) (hc_ (hb_ HB a7B) (hc_ (hb_ HB a5N) (hc_ (hb_ HB a9X) (hc_ (hb_ HB a8Q) (hc_ (hb_ HB aB3) (hc_ (hb_ HB a6Q) (hc_ (hb_ HB a4J) (hc_ (hb_ HB a94) (hc_ (hb_ HB a2I) (hc_ (hb_ HB a6T) (hc_ (hb_ HB YC) (hf_ (hb_ HB XZ))))))))))))))))))))))))) (fun hHeld => ?_); clear hK K; refine nm_ ?_; refine aBa 9 (tf 10 0) ?_; have H := gY.out; clear gY
       by_cases c8 : bDU = true
       ·subst c8
        rw [if_pos rfl] at H; have H' := am_ H; clear H; refine dn_ ?_
        try go_wp2
        go_roundg k1
        case measure => have := jK.out; omega
        case rel => exact ⟨(wrap64 (aC + 1)), rs_, H', ⟨by have := jK.out; omega⟩, ⟨bb_⟩⟩
       ·replace c8 := Bool.eq_false_iff.mpr c8
        subst c8; replace H := aZf H; obtain rfl := Option.some.inj H; refine dn_ ?_
        try go_wp2
        go_ret
        exact ⟨er_, bb_⟩
      ·rw [if_neg c6] at H
       exact nn_ H
     ·rw [if_neg c5] at H
      exact nn_ H
    ·rw [if_neg c4] at H
     have iB := decide_eq_false c4; clear c4; obtain rfl := Option.some.inj H
     go_wp2
     go_ret
     exact ⟨er_, bb_⟩
 ·rw [if_neg c3] at H
  have fC : ((l0.length : Int) == (l1.length : Int)) = false := beq_eq_false_iff_ne.mpr c3; have lI : ((l0.length : Int) != (l1.length : Int)) = true := bne_iff_ne.mpr c3; (have IC : (l0.length == l1.length) = false := by first | simpa using c3 | (simp at c3 ⊢; omega)); obtain rfl := Option.some.inj H
  go_enter Tryz.func31, Tryz.ntmps31
  go_wp2
  go_ret
  exact ⟨er_, bb_⟩

def iL.f : Nat → Int → ByteArray → Int → Int → Int → Int → ByteArray → ByteArray → (List S39) → (List S39) → Int → (List S42) → Int → ByteArray → Int → Int → Int → Int → ByteArray → ByteArray → (List S39) → (List S39) → Int → (List S42) → Option Bool
 | 0, _, _, _, _, _, _, _, _, _, _, _, _, _, _, _, _, _, _, _, _, _, _, _, _ => none
 | k + 1, aA, aD, aH, aK, aJ, aI, bC, bB, bG, aV, aW, aM, aX, bD, bJ, bX, bY, bV, eX, eY, dU, dB, dC, aY => if aA = aX then (if aD.toList = bD.toList then ((dW.f k aH aK aJ aI bC bB bG bJ bX bY bV eX eY dU).bind fun b2K => (if b2K = true then ((cK.f (dW.f k) k aV dB).bind fun b5N => (if b5N = true then (if aW = dC then ((dP.f (iL.f k) k aM aY).bind fun b0R => (if b0R = true then (some true) else (some false))) else (some false)) else (some false))) else (some false))) else (some false)) else (some false)
theorem iL.calls : ∀ (k : Nat) (aA : Int) (aD : ByteArray) (aH aK : Int) (aJ aI : Int) (bC bB : ByteArray) (dN : Option Addr) (dQ : Nat) (bG : List S39) (bZ : Option Addr) (cB : Nat) (aV : List S39) (aW : Int) (bP : Option Addr) (bM : Nat) (aM : List S42) (aX : Int) (bD : ByteArray) (bJ bX : Int) (bY bV : Int) (eX eY : ByteArray) (iX : Option Addr) (iY : Nat) (dU : List S39) (iA : Option Addr) (gZ : Nat) (dB : List S39) (dC : Int) (fP : Option Addr) (fG : Nat) (aY : List S42) (r : Bool) (w : World) (mG : Kd.C jX w dN bG.length bG) (lV : bG.length ≤ dQ) (jG : Kd.C jX w bZ aV.length aV) (jH : aV.length ≤ cB) (jS : Kd.C E5 w bP aM.length aM) (jN : aM.length ≤ bM) (nM : Kd.C jX w iX dU.length dU) (nP : dU.length ≤ iY) (mK : Kd.C jX w iA dB.length dB) (mM : dB.length ≤ gZ) (kJ : Kd.C E5 w fP aY.length aY) (kI : aY.length ≤ fG) (h : iL.f k aA aD aH aK aJ aI bC bB bG aV aW aM aX bD bJ bX bY bV eX eY dU dB dC aY = some r),
  Calls Tryz.prog 12 #[.agg #[.int .i64 aA, .string aD, .int .i64 aH, .int .i64 aK, .int .i64 aJ, .int .i64 aI, .string bC, .string bB, .slice dN bG.length dQ, .slice bZ aV.length cB, .int .i64 aW, .slice bP aM.length bM], .agg #[.int .i64 aX, .string bD, .int .i64 bJ, .int .i64 bX, .int .i64 bY, .int .i64 bV, .string eX, .string eY, .slice iX dU.length iY, .slice iA dB.length gZ, .int .i64 dC, .slice fP aY.length fG]] w fun e w' => e = .returned (.bool r) ∧ Below w.heap.size w w' := by
 intro k
 induction k with
 | zero =>
  intro aA aD aH aK aJ aI bC bB dN dQ bG bZ cB aV aW bP bM aM aX bD bJ bX bY bV eX eY iX iY dU iA gZ dB dC fP fG aY r w mG lV jG jH jS jN nM nP mK mM kJ kI h; exact absurd h (by simp [iL.f])
 | succ k ih_ =>
  intro aA aD aH aK aJ aI bC bB dN dQ bG bZ cB aV aW bP bM aM aX bD bJ bX bY bV eX eY iX iY dU iA gZ dB dC fP fG aY r w mG lV jG jH jS jN nM nP mK mM kJ kI h; obtain ⟨MW, zH⟩ := b0Y; have iG := am_ mG; have iD := am_ lV; clear mG lV; have iR := am_ jG; have iZ := am_ jH; clear jG jH; have jE := am_ jS; have jR := am_ jN; clear jS jN; have rZ := am_ nM; have rX := am_ nP; clear nM nP; have oP := am_ mK; have oL := am_ mM; clear mK mM; have qE := am_ kJ; have rU := am_ kI; clear kJ kI; have HB := am_ (Below.refl w.heap.size w); (have H : (if aA = aX then (if aD.toList = bD.toList then ((dW.f k aH aK aJ aI bC bB bG bJ bX bY bV eX eY dU).bind fun b2K => (if b2K = true then ((cK.f (dW.f k) k aV dB).bind fun b5N => (if b5N = true then (if aW = dC then ((dP.f (iL.f k) k aM aY).bind fun b0R => (if b0R = true then (some true) else (some false))) else (some false)) else (some false))) else (some false))) else (some false)) else (some false)) = some r := h); clear h
  by_cases c3 : aA = aX
  ·rw [if_pos c3] at H
   have fC : (aA == aX) = true := beq_iff_eq.mpr c3; have lI : (aA != aX) = false := bne_eq_false_iff_eq.mpr c3; clear c3
   by_cases c4 : aD.toList = bD.toList
   ·rw [if_pos c4] at H
    have iB : (aD.toList == bD.toList) = true := beq_iff_eq.mpr c4; have a0A : (aD.toList != bD.toList) = false := bne_eq_false_iff_eq.mpr c4; clear c4; replace H := aBp H; obtain ⟨b2K, U9, H⟩ := H
    try dsimp only at H
    have A5 := am_ U9; clear U9
    by_cases c6 : b2K = true
    ·subst c6
     rw [if_pos rfl] at H; replace H := aBp H; obtain ⟨b5N, ZI, H⟩ := H
     try dsimp only at H
     have A7 := am_ ZI; clear ZI
     by_cases c8 : b5N = true
     ·subst c8
      rw [if_pos rfl] at H
      by_cases c9 : aW = dC
      ·rw [if_pos c9] at H
       have xC : (aW == dC) = true := beq_iff_eq.mpr c9; have bM9 : (aW != dC) = false := bne_eq_false_iff_eq.mpr c9; clear c9; replace H := aBp H; obtain ⟨b0R, aHP, H⟩ := H
       try dsimp only at H
       have RJ := am_ aHP; clear aHP
       by_cases c11 : b0R = true
       ·subst c11
        rw [if_pos rfl] at H; obtain rfl := Option.some.inj H
        go_enter Tryz.func12, Tryz.ntmps12
        go_wp2_with (first | ((with_reducible refine aAc (N := 2) rfl ?_); refine bx_ 2 #[.int .i64 aA, .string aD, .int .i64 aH, .int .i64 aK, .int .i64 aJ, .int .i64 aI, .string bC, .string bB, .slice dN bG.length dQ, .slice bZ aV.length cB, .int .i64 aW, .slice bP aM.length bM] 42 ?_; intro a1I hg w12 hbox hb; have eZ := am_ (hbox); have a1N := gw_ hg; replace HB := bs_ hb; clear hb hbox hg) | ((with_reducible refine aAc (N := 3) rfl ?_); refine bx_ 3 #[.int .i64 aX, .string bD, .int .i64 bJ, .int .i64 bX, .int .i64 bY, .int .i64 bV, .string eX, .string eY, .slice iX dU.length iY, .slice iA dB.length gZ, .int .i64 dC, .slice fP aY.length fG] 42 ?_; intro a1K hg ZO hbox hb; have j6 := am_ (hbox); have a0X := gw_ hg; have kR := nl_ hg eZ; have kT := ng_ hg eZ; replace eZ := aAt eZ hb; replace HB := bs_ hb; clear hb hbox hg; have b0H := kR.out; have b92 := kT.out; obtain ⟨pX, pU, rQ, BZ, CW, BN, DK, a92, a8J, aAH, ZL, Y8, pJ, pR, rR, BJ, DC, BH, CQ, a5D, aA3, a9F, Z4, Y0⟩ := aBw eZ; obtain ⟨rH, rO, tQ, vE, vW, vY, wG, LP, LW, MQ, EG, ES, rE, rP, sP, vN, vM, vT, wF, KE, L8, KQ, E9, EQ⟩ := aBw j6) | ((with_reducible refine aAa (f := 29) rfl ?_); refine aBh (some 19) Tryz.func29 #[.agg #[.int .i64 aH, .int .i64 aK, .int .i64 aJ, .int .i64 aI, .string bC, .string bB, .slice dN bG.length dQ], .agg #[.int .i64 bJ, .int .i64 bX, .int .i64 bY, .int .i64 bV, .string eX, .string eY, .slice iX dU.length iY]] ?_; (with_reducible refine (dW.calls _ _ _ _ _ _ _ _ _ _ _ _ _ _ _ _ _ _ _ _ _ (cb_ iG HB) iD.out (cb_ rZ HB) rX.out A5.out).mono ?_); rintro e w17 ⟨rfl, hb⟩; refine ⟨_, rfl, ?_⟩; replace eZ := aAt eZ hb; replace j6 := aAt j6 hb; replace HB := bs_ hb; (try clear hb); obtain ⟨tY, tJ, yJ, GR, FB, G7, GL, aAP, a8E, aBA, YT, XN, tK, sO, yP, F7, FQ, F8, GH, aAR, aA4, a6N, YM, Z0⟩ := aBw eZ; obtain ⟨yC, yG, yI, CK, C8, DL, CZ, QE, PO, R8, IL, J2, xX, xR, yF, BO, BS, CR, CO, O3, PP, PV, JD, J5⟩ := aBw j6) | ((with_reducible refine aAa (f := 30) rfl ?_); refine aBh (some 25) Tryz.func30 #[.slice bZ aV.length cB, .slice iA dB.length gZ] ?_; (with_reducible refine (cK.calls _ (dW.calls k) _ _ _ _ _ _ _ _ _ (cb_ iR HB) iZ.out (cb_ oP HB) oL.out A7.out).mono ?_); rintro e w20 ⟨rfl, hb⟩; refine ⟨_, rfl, ?_⟩; replace eZ := aAt eZ hb; replace j6 := aAt j6 hb; replace HB := bs_ hb; (try clear hb); obtain ⟨uD, uC, y7, LQ, LC, KY, MF, Q9, OY, O5, IB, I9, tZ, sU, yA, KV, MJ, M4, KS, OU, R6, NZ, JS, JP⟩ := aBw eZ; obtain ⟨SA, QX, VJ, a7O, a3G, aBR, a1Z, cT0, cTN, cNJ, cEU, cHW, R4, R9, WE, aBB, aAT, a6G, a9O, cQQ, d0K, cTS, cBG, cL3⟩ := aBw j6) | ((with_reducible refine aAa (f := 31) rfl ?_); refine aBh (some 36) Tryz.func31 #[.slice bP aM.length bM, .slice fP aY.length fG] ?_; (with_reducible refine (dP.calls _ ih_ _ _ _ _ _ _ _ _ _ (cb_ jE HB) jR.out (cb_ qE HB) rU.out RJ.out).mono ?_); rintro e w23 ⟨rfl, hb⟩; refine ⟨_, rfl, ?_⟩; replace eZ := aAt eZ hb; replace j6 := aAt j6 hb; replace HB := bs_ hb; (try clear hb)))
        go_ret
        exact ⟨er_, bb_⟩
       ·replace c11 := Bool.eq_false_iff.mpr c11
        subst c11; replace H := aZf H; obtain rfl := Option.some.inj H
        go_enter Tryz.func12, Tryz.ntmps12
        go_wp2_with (first | ((with_reducible refine aAc (N := 2) rfl ?_); refine bx_ 2 #[.int .i64 aA, .string aD, .int .i64 aH, .int .i64 aK, .int .i64 aJ, .int .i64 aI, .string bC, .string bB, .slice dN bG.length dQ, .slice bZ aV.length cB, .int .i64 aW, .slice bP aM.length bM] 42 ?_; intro a1I hg w24 hbox hb; have eZ := am_ (hbox); have a1N := gw_ hg; replace HB := bs_ hb; clear hb hbox hg) | ((with_reducible refine aAc (N := 3) rfl ?_); refine bx_ 3 #[.int .i64 aX, .string bD, .int .i64 bJ, .int .i64 bX, .int .i64 bY, .int .i64 bV, .string eX, .string eY, .slice iX dU.length iY, .slice iA dB.length gZ, .int .i64 dC, .slice fP aY.length fG] 42 ?_; intro a1K hg w25 hbox hb; have j6 := am_ (hbox); have a0X := gw_ hg; have kR := nl_ hg eZ; have kT := ng_ hg eZ; replace eZ := aAt eZ hb; replace HB := bs_ hb; clear hb hbox hg; have d83 := kR.out; have dBI := kT.out; obtain ⟨aM9, aU1, aNN, bFD, bCF, bDJ, bH5, cNM, cQD, d0F, cHD, c9Z, aRK, aRF, aLB, bK9, bDP, bN4, bF3, cXS, cVX, cZ6, cD9, cII⟩ := aBw eZ; obtain ⟨RF, OZ, O8, RO, OD, QV, OH, aKF, aMB, aL9, aIM, aFS, RS, RD, P9, RI, PT, S9, RA, aP0, aOX, aOO, aEW, aD9⟩ := aBw j6) | ((with_reducible refine aAa (f := 29) rfl ?_); refine aBh (some 19) Tryz.func29 #[.agg #[.int .i64 aH, .int .i64 aK, .int .i64 aJ, .int .i64 aI, .string bC, .string bB, .slice dN bG.length dQ], .agg #[.int .i64 bJ, .int .i64 bX, .int .i64 bY, .int .i64 bV, .string eX, .string eY, .slice iX dU.length iY]] ?_; (with_reducible refine (dW.calls _ _ _ _ _ _ _ _ _ _ _ _ _ _ _ _ _ _ _ _ _ (cb_ iG HB) iD.out (cb_ rZ HB) rX.out A5.out).mono ?_); rintro e w29 ⟨rfl, hb⟩; refine ⟨_, rfl, ?_⟩; replace eZ := aAt eZ hb; replace j6 := aAt j6 hb; replace HB := bs_ hb; (try clear hb); obtain ⟨UO, UL, VH, UX, VU, VG, VK, WW, UT, VB, Q0, RU, XG, UQ, WP, XH, VF, WO, UN, UW, VS, VX, R7, PZ⟩ := aBw eZ; obtain ⟨bE5, bJ2, bNM, bC1, bBV, bME, bL5, cPF, cQN, cXZ, c8Y, c52, bNI, bLK, bLX, bB2, bOD, bB9, bJL, cQH, cSQ, cTP, cIG, cK3⟩ := aBw j6) | ((with_reducible refine aAa (f := 30) rfl ?_); refine aBh (some 25) Tryz.func30 #[.slice bZ aV.length cB, .slice iA dB.length gZ] ?_; (with_reducible refine (cK.calls _ (dW.calls k) _ _ _ _ _ _ _ _ _ (cb_ iR HB) iZ.out (cb_ oP HB) oL.out A7.out).mono ?_); rintro e w32 ⟨rfl, hb⟩; refine ⟨_, rfl, ?_⟩; replace eZ := aAt eZ hb; replace j6 := aAt j6 hb; replace HB := bs_ hb; (try clear hb); obtain ⟨aU3, aOW, aST, aV0, aOQ, aL5, aO6, bJ1, bML, bLY, b4P, b4X, aTE, aY3, aR9, aOM, aML, aP8, aSR, bK8, bBY, bCT, b79, b7Q⟩ := aBw eZ; obtain ⟨bIO, bCL, bGK, bNT, bDI, bMF, bAZ, cP0, cT7, cS3, cKR, cJK, bN5, bMS, bEU, bE0, bEV, bLS, bM3, cNV, cVP, cSX, cAJ, cDS⟩ := aBw j6) | ((with_reducible refine aAa (f := 31) rfl ?_); refine aBh (some 36) Tryz.func31 #[.slice bP aM.length bM, .slice fP aY.length fG] ?_; (with_reducible refine (dP.calls _ ih_ _ _ _ _ _ _ _ _ _ (cb_ jE HB) jR.out (cb_ qE HB) rU.out RJ.out).mono ?_); rintro e w35 ⟨rfl, hb⟩; refine ⟨_, rfl, ?_⟩; replace eZ := aAt eZ hb; replace j6 := aAt j6 hb; replace HB := bs_ hb; (try clear hb)))
        go_ret
        exact ⟨er_, bb_⟩
      ·rw [if_neg c9] at H
       have xC : (aW == dC) = false := beq_eq_false_iff_ne.mpr c9; have bM9 : (aW != dC) = true := bne_iff_ne.mpr c9; obtain rfl := Option.some.inj H
       go_enter Tryz.func12, Tryz.ntmps12
       go_wp2_with (first | ((with_reducible refine aAc (N := 2) rfl ?_); refine bx_ 2 #[.int .i64 aA, .string aD, .int .i64 aH, .int .i64 aK, .int .i64 aJ, .int .i64 aI, .string bC, .string bB, .slice dN bG.length dQ, .slice bZ aV.length cB, .int .i64 aW, .slice bP aM.length bM] 42 ?_; intro a1I hg w36 hbox hb; have eZ := am_ (hbox); have a1N := gw_ hg; replace HB := bs_ hb; clear hb hbox hg) | ((with_reducible refine aAc (N := 3) rfl ?_); refine bx_ 3 #[.int .i64 aX, .string bD, .int .i64 bJ, .int .i64 bX, .int .i64 bY, .int .i64 bV, .string eX, .string eY, .slice iX dU.length iY, .slice iA dB.length gZ, .int .i64 dC, .slice fP aY.length fG] 42 ?_; intro a1K hg w37 hbox hb; have j6 := am_ (hbox); have a0X := gw_ hg; have kR := nl_ hg eZ; have kT := ng_ hg eZ; replace eZ := aAt eZ hb; replace HB := bs_ hb; clear hb hbox hg; have cBY := kR.out; have c7E := kT.out; obtain ⟨aO0, aVE, aV2, aUV, aSJ, aLY, aUN, cZ7, cXA, cN8, c8I, cHB, aOZ, aSD, aQ9, aX7, aY8, aTY, aKN, d0G, cV2, d1L, cF2, c99⟩ := aBw eZ; obtain ⟨a7U, aBS, aAZ, a8Z, aBE, a7D, a7H, aXC, aTT, aO8, aIB, aET, a6O, a4K, a5P, a4X, a5Z, a4I, aBQ, aVM, aN8, aWT, aF8, aES⟩ := aBw j6) | ((with_reducible refine aAa (f := 29) rfl ?_); refine aBh (some 19) Tryz.func29 #[.agg #[.int .i64 aH, .int .i64 aK, .int .i64 aJ, .int .i64 aI, .string bC, .string bB, .slice dN bG.length dQ], .agg #[.int .i64 bJ, .int .i64 bX, .int .i64 bY, .int .i64 bV, .string eX, .string eY, .slice iX dU.length iY]] ?_; (with_reducible refine (dW.calls _ _ _ _ _ _ _ _ _ _ _ _ _ _ _ _ _ _ _ _ _ (cb_ iG HB) iD.out (cb_ rZ HB) rX.out A5.out).mono ?_); rintro e w41 ⟨rfl, hb⟩; refine ⟨_, rfl, ?_⟩; replace eZ := aAt eZ hb; replace j6 := aAt j6 hb; replace HB := bs_ hb; (try clear hb); obtain ⟨bM6, bFJ, bC6, bMT, bHD, bJZ, bO8, cRE, cOJ, cWJ, c5N, cA4, bGA, bMJ, bIV, bMG, bKT, bI5, bH2, d06, cU0, d0A, c6S, c6P⟩ := aBw eZ; obtain ⟨aR3, aOY, aVA, aNC, aWU, aU7, aW4, aXS, aT9, aTD, aG7, aF7, aVS, aW2, aXY, aQT, aRP, aTV, aS9, aXP, aOP, aX6, aH3, aDN⟩ := aBw j6) | ((with_reducible refine aAa (f := 30) rfl ?_); refine aBh (some 25) Tryz.func30 #[.slice bZ aV.length cB, .slice iA dB.length gZ] ?_; (with_reducible refine (cK.calls _ (dW.calls k) _ _ _ _ _ _ _ _ _ (cb_ iR HB) iZ.out (cb_ oP HB) oL.out A7.out).mono ?_); rintro e w44 ⟨rfl, hb⟩; refine ⟨_, rfl, ?_⟩; replace eZ := aAt eZ hb; replace j6 := aAt j6 hb; replace HB := bs_ hb; (try clear hb); obtain ⟨aMC, aVU, aR1, aSF, aRX, aLH, aPP, bGF, bDE, bBQ, b85, b5O, aND, aPU, aVN, aNI, aRM, aM2, aRE, bDS, bGH, bFM, bAL, b4D⟩ := aBw eZ; obtain ⟨aPJ, aXM, aX9, aUS, aKD, aWJ, aR7, bNC, bD6, bDN, b3R, b81, aUB, aQN, aT4, aQP, aVR, aO2, aX0, bFV, bBR, bES, b3G, b4R⟩ := aBw j6))
       go_ret
       exact ⟨er_, bb_⟩
     ·replace c8 := Bool.eq_false_iff.mpr c8
      subst c8; replace H := aZf H; obtain rfl := Option.some.inj H
      go_enter Tryz.func12, Tryz.ntmps12
      go_wp2_with (first | ((with_reducible refine aAc (N := 2) rfl ?_); refine bx_ 2 #[.int .i64 aA, .string aD, .int .i64 aH, .int .i64 aK, .int .i64 aJ, .int .i64 aI, .string bC, .string bB, .slice dN bG.length dQ, .slice bZ aV.length cB, .int .i64 aW, .slice bP aM.length bM] 42 ?_; intro a1I hg w47 hbox hb; have eZ := am_ (hbox); have a1N := gw_ hg; replace HB := bs_ hb; clear hb hbox hg) | ((with_reducible refine aAc (N := 3) rfl ?_); refine bx_ 3 #[.int .i64 aX, .string bD, .int .i64 bJ, .int .i64 bX, .int .i64 bY, .int .i64 bV, .string eX, .string eY, .slice iX dU.length iY, .slice iA dB.length gZ, .int .i64 dC, .slice fP aY.length fG] 42 ?_; intro a1K hg w48 hbox hb; have j6 := am_ (hbox); have a0X := gw_ hg; have kR := nl_ hg eZ; have kT := ng_ hg eZ; replace eZ := aAt eZ hb; replace HB := bs_ hb; clear hb hbox hg; have cKY := kR.out; have cEG := kT.out; obtain ⟨aQJ, aR2, aW0, aV1, aL0, aRR, aSL, bKK, bLF, bFL, b2F, b33, aXL, aLV, aT1, aX3, aPF, aXU, aXZ, bFC, bI6, bBN, b3E, b7N⟩ := aBw eZ; obtain ⟨a5Q, a9L, aUU, aW8, aQK, aSG, aUJ, cQK, cU2, cW9, cJC, c3Z, a2B, a3K, aO3, aQB, aWR, aNO, aXV, cWG, cQX, cS6, c8K, cLB⟩ := aBw j6) | ((with_reducible refine aAa (f := 29) rfl ?_); refine aBh (some 19) Tryz.func29 #[.agg #[.int .i64 aH, .int .i64 aK, .int .i64 aJ, .int .i64 aI, .string bC, .string bB, .slice dN bG.length dQ], .agg #[.int .i64 bJ, .int .i64 bX, .int .i64 bY, .int .i64 bV, .string eX, .string eY, .slice iX dU.length iY]] ?_; (with_reducible refine (dW.calls _ _ _ _ _ _ _ _ _ _ _ _ _ _ _ _ _ _ _ _ _ (cb_ iG HB) iD.out (cb_ rZ HB) rX.out A5.out).mono ?_); rintro e w52 ⟨rfl, hb⟩; refine ⟨_, rfl, ?_⟩; replace eZ := aAt eZ hb; replace j6 := aAt j6 hb; replace HB := bs_ hb; (try clear hb); obtain ⟨bKS, bOK, bMU, bIE, bDX, bBH, bDT, cQ1, cNH, cXX, cDY, cB8, bCK, bG1, bB8, bHP, bD8, bIU, bGY, d05, cP5, cOU, cIJ, cIS⟩ := aBw eZ; obtain ⟨aMD, aS2, bBU, bCI, bL0, bNX, bCY, cSO, d0J, cVG, c7Y, cAR, aX1, aUH, bAW, bLN, bLH, bII, bEP, cPA, cYX, cSY, cBO, cFV⟩ := aBw j6) | ((with_reducible refine aAa (f := 30) rfl ?_); refine aBh (some 25) Tryz.func30 #[.slice bZ aV.length cB, .slice iA dB.length gZ] ?_; (with_reducible refine (cK.calls _ (dW.calls k) _ _ _ _ _ _ _ _ _ (cb_ iR HB) iZ.out (cb_ oP HB) oL.out A7.out).mono ?_); rintro e w55 ⟨rfl, hb⟩; refine ⟨_, rfl, ?_⟩; replace eZ := aAt eZ hb; replace j6 := aAt j6 hb; replace HB := bs_ hb; (try clear hb)))
      go_ret
      exact ⟨er_, bb_⟩
    ·replace c6 := Bool.eq_false_iff.mpr c6
     subst c6; replace H := aZf H; obtain rfl := Option.some.inj H
     go_enter Tryz.func12, Tryz.ntmps12
     go_wp2_with (first | ((with_reducible refine aAc (N := 2) rfl ?_); refine bx_ 2 #[.int .i64 aA, .string aD, .int .i64 aH, .int .i64 aK, .int .i64 aJ, .int .i64 aI, .string bC, .string bB, .slice dN bG.length dQ, .slice bZ aV.length cB, .int .i64 aW, .slice bP aM.length bM] 42 ?_; intro a1I hg w56 hbox hb; have eZ := am_ (hbox); have a1N := gw_ hg; replace HB := bs_ hb; clear hb hbox hg) | ((with_reducible refine aAc (N := 3) rfl ?_); refine bx_ 3 #[.int .i64 aX, .string bD, .int .i64 bJ, .int .i64 bX, .int .i64 bY, .int .i64 bV, .string eX, .string eY, .slice iX dU.length iY, .slice iA dB.length gZ, .int .i64 dC, .slice fP aY.length fG] 42 ?_; intro a1K hg w57 hbox hb; have j6 := am_ (hbox); have a0X := gw_ hg; have kR := nl_ hg eZ; have kT := ng_ hg eZ; replace eZ := aAt eZ hb; replace HB := bs_ hb; clear hb hbox hg; have dBH := kR.out; have d9P := kT.out; obtain ⟨aM6, aUR, aR0, aSM, aQR, aXT, aLR, bBW, bIR, bB1, b7Z, b2X, aN3, aLJ, aUX, aQG, aPZ, aLM, aQO, bC3, bEO, bNP, b9C, b6I⟩ := aBw eZ; obtain ⟨bO5, bHS, bJX, bJK, bO9, bHU, bKG, cRQ, cUW, cWE, cDK, cL9, bBF, bH0, bHY, bCS, bNK, bCD, bBZ, cTX, cX2, cYS, cDA, cGO⟩ := aBw j6) | ((with_reducible refine aAa (f := 29) rfl ?_); refine aBh (some 19) Tryz.func29 #[.agg #[.int .i64 aH, .int .i64 aK, .int .i64 aJ, .int .i64 aI, .string bC, .string bB, .slice dN bG.length dQ], .agg #[.int .i64 bJ, .int .i64 bX, .int .i64 bY, .int .i64 bV, .string eX, .string eY, .slice iX dU.length iY]] ?_; (with_reducible refine (dW.calls _ _ _ _ _ _ _ _ _ _ _ _ _ _ _ _ _ _ _ _ _ (cb_ iG HB) iD.out (cb_ rZ HB) rX.out A5.out).mono ?_); rintro e w61 ⟨rfl, hb⟩; refine ⟨_, rfl, ?_⟩; replace eZ := aAt eZ hb; replace j6 := aAt j6 hb; replace HB := bs_ hb; (try clear hb)))
     go_ret
     exact ⟨er_, bb_⟩
   ·rw [if_neg c4] at H
    have iB : (aD.toList == bD.toList) = false := beq_eq_false_iff_ne.mpr c4; have a0A : (aD.toList != bD.toList) = true := bne_iff_ne.mpr c4; obtain rfl := Option.some.inj H
    go_enter Tryz.func12, Tryz.ntmps12
    go_wp2_with (first | ((with_reducible refine aAc (N := 2) rfl ?_); refine bx_ 2 #[.int .i64 aA, .string aD, .int .i64 aH, .int .i64 aK, .int .i64 aJ, .int .i64 aI, .string bC, .string bB, .slice dN bG.length dQ, .slice bZ aV.length cB, .int .i64 aW, .slice bP aM.length bM] 42 ?_; intro a1I hg w62 hbox hb; have eZ := am_ (hbox); have a1N := gw_ hg; replace HB := bs_ hb; clear hb hbox hg) | ((with_reducible refine aAc (N := 3) rfl ?_); refine bx_ 3 #[.int .i64 aX, .string bD, .int .i64 bJ, .int .i64 bX, .int .i64 bY, .int .i64 bV, .string eX, .string eY, .slice iX dU.length iY, .slice iA dB.length gZ, .int .i64 dC, .slice fP aY.length fG] 42 ?_; intro a1K hg w63 hbox hb; have j6 := am_ (hbox); have a0X := gw_ hg; have kR := nl_ hg eZ; have kT := ng_ hg eZ; replace eZ := aAt eZ hb; replace HB := bs_ hb; clear hb hbox hg; have dBM := kR.out; have d84 := kT.out; obtain ⟨bG2, bDR, bKW, bDH, bNW, bLL, bLW, cPJ, d1N, cZV, cAE, cFT, bGL, bH6, bIM, bFO, bOC, bF2, bJO, cNA, cZ1, cP2, cA5, c5K⟩ := aBw eZ; obtain ⟨aQL, aWV, aMZ, aPY, aWW, aS0, aRD, bF4, bAX, bBP, b1N, b8J, aT0, aRW, aN7, aWO, aOF, aVJ, aU8, bER, bDW, bMD, b6U, b7F⟩ := aBw j6))
    go_ret
    exact ⟨er_, bb_⟩
  ·rw [if_neg c3] at H
   have fC : (aA == aX) = false := beq_eq_false_iff_ne.mpr c3; have lI : (aA != aX) = true := bne_iff_ne.mpr c3; obtain rfl := Option.some.inj H
   go_enter Tryz.func12, Tryz.ntmps12
   go_wp2_with (first | ((with_reducible refine aAc (N := 2) rfl ?_); refine bx_ 2 #[.int .i64 aA, .string aD, .int .i64 aH, .int .i64 aK, .int .i64 aJ, .int .i64 aI, .string bC, .string bB, .slice dN bG.length dQ, .slice bZ aV.length cB, .int .i64 aW, .slice bP aM.length bM] 42 ?_; intro a1I hg w67 hbox hb; have eZ := am_ (hbox); have a1N := gw_ hg; replace HB := bs_ hb; clear hb hbox hg) | ((with_reducible refine aAc (N := 3) rfl ?_); refine bx_ 3 #[.int .i64 aX, .string bD, .int .i64 bJ, .int .i64 bX, .int .i64 bY, .int .i64 bV, .string eX, .string eY, .slice iX dU.length iY, .slice iA dB.length gZ, .int .i64 dC, .slice fP aY.length fG] 42 ?_; intro a1K hg w68 hbox hb; have j6 := am_ (hbox); have a0X := gw_ hg; have kR := nl_ hg eZ; have kT := ng_ hg eZ; replace eZ := aAt eZ hb; replace HB := bs_ hb; clear hb hbox hg; have d7Q := kR.out; have dBD := kT.out; obtain ⟨bB7, bI1, bEJ, bF9, bL7, bN6, bM2, bCE, bBA, bJR, b3P, b0N, bG7, bNJ, bFG, bDF, bLD, bJ5, bB5, bMH, bI7, bMC, b1S, b8I⟩ := aBw eZ; obtain ⟨cXK, cX9, cXP, cRF, cOG, cZM, cNZ, cW0, cZW, cUI, cDU, cEI, cZN, cZL, d1M, cRM, cSN, d1I, cPR, cSH, cXR, cVQ, cCX, cAC⟩ := aBw j6))
   go_ret
   exact ⟨er_, bb_⟩

def wU.f (k : Nat) (aA : ByteArray) (aD : Int) (aH : ByteArray) (aK aJ : Int) (aI bC : Int) (bB lQ : ByteArray) (aV fT : List S39) (iQ : Int) (fU : List S42) (jA : Int) (gK : List S126) (aX : ByteArray) (bD : Int) (bJ : ByteArray) (bX bY : Int) (bV eX : Int) (eY UG : ByteArray) (dB zV : List S39) (H7 : Int) (yX : List S42) (K9 : Int) (BM : List S126) : Option Bool := if aA.toList = aX.toList then ((iL.f k aD aH aK aJ aI bC bB lQ aV fT iQ fU bD bJ bX bY bV eX eY UG dB zV H7 yX).bind fun b4E => (if b4E = true then ((kV.f k jA gK K9 BM).bind fun b58 => (if b58 = true then (some true) else (some false))) else (some false))) else (some false)
theorem wU.calls (k : Nat) (aA : ByteArray) (aD : Int) (aH : ByteArray) (aK aJ : Int) (aI bC : Int) (bB lQ : ByteArray) (bZ : Option Addr) (cB : Nat) (aV : List S39) (kG : Option Addr) (kE : Nat) (fT : List S39) (iQ : Int) (kH : Option Addr) (kF : Nat) (fU : List S42) (jA : Int) (kM : Option Addr) (kP : Nat) (gK : List S126) (aX : ByteArray) (bD : Int) (bJ : ByteArray) (bX bY : Int) (bV eX : Int) (eY UG : ByteArray) (iA : Option Addr) (gZ : Nat) (dB : List S39) (O7 : Option Addr) (OW : Nat) (zV : List S39) (H7 : Int) (NS : Option Addr) (PY : Nat) (yX : List S42) (K9 : Int) (U5 : Option Addr) (U3 : Nat) (BM : List S126) (r : Bool) (w : World) (jG : Kd.C jX w bZ aV.length aV) (jH : aV.length ≤ cB) (yV : Kd.C jX w kG fT.length fT) (AJ : fT.length ≤ kE) (zJ : Kd.C E5 w kH fU.length fU) (yY : fU.length ≤ kF) (AU : Kd.C jU w kM gK.length gK) (zM : gK.length ≤ kP) (mK : Kd.C jX w iA dB.length dB) (mM : dB.length ≤ gZ) (bAG : Kd.C jX w O7 zV.length zV) (b46 : zV.length ≤ OW) (b9X : Kd.C E5 w NS yX.length yX) (b7U : yX.length ≤ PY) (b97 : Kd.C jU w U5 BM.length BM) (b3K : BM.length ≤ U3) (h : wU.f k aA aD aH aK aJ aI bC bB lQ aV fT iQ fU jA gK aX bD bJ bX bY bV eX eY UG dB zV H7 yX K9 BM = some r) :
  Calls Tryz.prog 44 #[.agg #[.string aA, .int .i64 aD, .string aH, .int .i64 aK, .int .i64 aJ, .int .i64 aI, .int .i64 bC, .string bB, .string lQ, .slice bZ aV.length cB, .slice kG fT.length kE, .int .i64 iQ, .slice kH fU.length kF, .int .i64 jA, .slice kM gK.length kP], .agg #[.string aX, .int .i64 bD, .string bJ, .int .i64 bX, .int .i64 bY, .int .i64 bV, .int .i64 eX, .string eY, .string UG, .slice iA dB.length gZ, .slice O7 zV.length OW, .int .i64 H7, .slice NS yX.length PY, .int .i64 K9, .slice U5 BM.length U3]] w fun e w' => e = .returned (.bool r) ∧ Below w.heap.size w w' := by
 obtain ⟨b6K, MW, NT⟩ := cC9
 have iR := am_ jG
 have iZ := am_ jH
 clear jG jH
 have zC := am_ yV
 have zK := am_ AJ
 clear yV AJ
 have AV := am_ zJ
 have zA := am_ yY
 clear zJ yY
 have IZ := am_ AU
 have J7 := am_ zM
 clear AU zM
 have oP := am_ mK
 have oL := am_ mM
 clear mK mM
 have aJC := am_ bAG
 have aJD := am_ b46
 clear bAG b46
 have aJI := am_ b9X
 have aJW := am_ b7U
 clear b9X b7U
 have b44 := am_ b97
 have b5F := am_ b3K
 clear b97 b3K
 have HB := am_ (Below.refl w.heap.size w)
 have H : (if aA.toList = aX.toList then ((iL.f k aD aH aK aJ aI bC bB lQ aV fT iQ fU bD bJ bX bY bV eX eY UG dB zV H7 yX).bind fun b4E => (if b4E = true then ((kV.f k jA gK K9 BM).bind fun b58 => (if b58 = true then (some true) else (some false))) else (some false))) else (some false)) = some r := h
 clear h
 by_cases c3 : aA.toList = aX.toList
 ·rw [if_pos c3] at H
  have fC : (aA.toList == aX.toList) = true := beq_iff_eq.mpr c3; have lI : (aA.toList != aX.toList) = false := bne_eq_false_iff_eq.mpr c3; clear c3; replace H := aBp H; obtain ⟨b4E, N9, H⟩ := H
  try dsimp only at H
  have A4 := am_ N9; clear N9
  by_cases c5 : b4E = true
  ·subst c5
   rw [if_pos rfl] at H; replace H := aBp H; obtain ⟨b58, D6, H⟩ := H
   try dsimp only at H
   have A6 := am_ D6; clear D6
   by_cases c7 : b58 = true
   ·subst c7
    rw [if_pos rfl] at H; obtain rfl := Option.some.inj H
    go_enter Tryz.func44, Tryz.ntmps44
    go_wp2_with (first | ((with_reducible refine aAc (N := 2) rfl ?_); refine bx_ 2 #[.string aA, .int .i64 aD, .string aH, .int .i64 aK, .int .i64 aJ, .int .i64 aI, .int .i64 bC, .string bB, .string lQ, .slice bZ aV.length cB, .slice kG fT.length kE, .int .i64 iQ, .slice kH fU.length kF, .int .i64 jA, .slice kM gK.length kP] 83 ?_; intro b9F hg w8 hbox hb; have kC := am_ (hbox); have b6Q := gw_ hg; replace HB := bs_ hb; clear hb hbox hg) | ((with_reducible refine aAc (N := 3) rfl ?_); refine bx_ 3 #[.string aX, .int .i64 bD, .string bJ, .int .i64 bX, .int .i64 bY, .int .i64 bV, .int .i64 eX, .string eY, .string UG, .slice iA dB.length gZ, .slice O7 zV.length OW, .int .i64 H7, .slice NS yX.length PY, .int .i64 K9, .slice U5 BM.length U3] 83 ?_; intro b25 hg w9 hbox hb; have sW := am_ (hbox); have b0K := gw_ hg; have uM := nl_ hg kC; have uT := ng_ hg kC; replace kC := aAt kC hb; replace HB := bs_ hb; clear hb hbox hg; have aPS := uM.out; have aSU := uT.out; obtain ⟨CX, DR, KG, LK, LJ, LV, KW, bN2, bLC, bCU, b69, b4Q, b5M, b8Q, b94, BV, D5, KN, MN, KX, LG, L6, bDC, bF1, bC9, bA7, b4J, b65, b3I, b4A⟩ := aHm kC; obtain ⟨uI, tF, xS, GK, FY, FZ, GJ, aTI, aXB, aSY, aER, aE3, c9C, cL0, cEE, uA, sG, xW, FV, GA, G5, FN, aY7, aNB, aL3, aFF, aEY, cGU, cCS, cA0⟩ := aHm sW) | ((with_reducible refine aAa (f := 12) rfl ?_); refine aBh (some 14) Tryz.func12 #[.agg #[.int .i64 aD, .string aH, .int .i64 aK, .int .i64 aJ, .int .i64 aI, .int .i64 bC, .string bB, .string lQ, .slice bZ aV.length cB, .slice kG fT.length kE, .int .i64 iQ, .slice kH fU.length kF], .agg #[.int .i64 bD, .string bJ, .int .i64 bX, .int .i64 bY, .int .i64 bV, .int .i64 eX, .string eY, .string UG, .slice iA dB.length gZ, .slice O7 zV.length OW, .int .i64 H7, .slice NS yX.length PY]] ?_; (with_reducible refine (iL.calls _ _ _ _ _ _ _ _ _ _ _ _ _ _ _ _ _ _ _ _ _ _ _ _ _ _ _ _ _ _ _ _ _ _ _ _ _ _ _ (cb_ iR HB) iZ.out (cb_ zC HB) zK.out (cb_ AV HB) zA.out (cb_ oP HB) oL.out (cb_ aJC HB) aJD.out (cb_ aJI HB) aJW.out A4.out).mono ?_); rintro e ZO ⟨rfl, hb⟩; refine ⟨_, rfl, ?_⟩; replace kC := aAt kC hb; replace sW := aAt sW hb; replace HB := bs_ hb; (try clear hb); obtain ⟨nZ, nV, rD, vX, vP, vZ, wB, D9, CG, BL, wS, wM, aF1, aHO, aC4, oG, nW, rA, wH, vJ, vG, vC, CL, BI, DJ, wX, wO, aE2, aDW, aDR⟩ := aHm kC; obtain ⟨pX, pU, rQ, BZ, CW, BN, DK, a92, a8J, aAH, ZL, Y8, cCA, cJ7, cBR, pJ, pR, rR, BJ, DC, BH, CQ, a5D, aA3, a9F, Z4, Y0, cAP, cCH, cFH⟩ := aHm sW) | ((with_reducible refine aAa (f := 54) rfl ?_); refine aBh (some 20) Tryz.func54 #[.agg #[.int .i64 jA, .slice kM gK.length kP], .agg #[.int .i64 K9, .slice U5 BM.length U3]] ?_; (with_reducible refine (kV.calls _ _ _ _ _ _ _ _ _ _ _ (cb_ IZ HB) J7.out (cb_ b44 HB) b5F.out A6.out).mono ?_); rintro e w16 ⟨rfl, hb⟩; refine ⟨_, rfl, ?_⟩; replace kC := aAt kC hb; replace sW := aAt sW hb; replace HB := bs_ hb; (try clear hb)))
    go_ret
    exact ⟨er_, bb_⟩
   ·replace c7 := Bool.eq_false_iff.mpr c7
    subst c7; replace H := aZf H; obtain rfl := Option.some.inj H
    go_enter Tryz.func44, Tryz.ntmps44
    go_wp2_with (first | ((with_reducible refine aAc (N := 2) rfl ?_); refine bx_ 2 #[.string aA, .int .i64 aD, .string aH, .int .i64 aK, .int .i64 aJ, .int .i64 aI, .int .i64 bC, .string bB, .string lQ, .slice bZ aV.length cB, .slice kG fT.length kE, .int .i64 iQ, .slice kH fU.length kF, .int .i64 jA, .slice kM gK.length kP] 83 ?_; intro b9F hg w17 hbox hb; have kC := am_ (hbox); have b6Q := gw_ hg; replace HB := bs_ hb; clear hb hbox hg) | ((with_reducible refine aAc (N := 3) rfl ?_); refine bx_ 3 #[.string aX, .int .i64 bD, .string bJ, .int .i64 bX, .int .i64 bY, .int .i64 bV, .int .i64 eX, .string eY, .string UG, .slice iA dB.length gZ, .slice O7 zV.length OW, .int .i64 H7, .slice NS yX.length PY, .int .i64 K9, .slice U5 BM.length U3] 83 ?_; intro b25 hg w18 hbox hb; have sW := am_ (hbox); have b0K := gw_ hg; have uM := nl_ hg kC; have uT := ng_ hg kC; replace kC := aAt kC hb; replace HB := bs_ hb; clear hb hbox hg; have c6O := uM.out; have c5I := uT.out; obtain ⟨yD, xU, CJ, GG, FM, FH, F4, O4, PR, RG, IP, JQ, b2Y, b5J, b4V, yN, yL, BR, FT, F5, FX, GM, Q3, OE, OJ, IR, JB, b4S, b3C, b8A⟩ := aHm kC; obtain ⟨uD, uC, y7, LQ, LC, KY, MF, Q9, OY, O5, IB, I9, aFY, aDX, aGD, tZ, sU, yA, KV, MJ, M4, KS, OU, R6, NZ, JS, JP, aCK, aEP, aE5⟩ := aHm sW) | ((with_reducible refine aAa (f := 12) rfl ?_); refine aBh (some 14) Tryz.func12 #[.agg #[.int .i64 aD, .string aH, .int .i64 aK, .int .i64 aJ, .int .i64 aI, .int .i64 bC, .string bB, .string lQ, .slice bZ aV.length cB, .slice kG fT.length kE, .int .i64 iQ, .slice kH fU.length kF], .agg #[.int .i64 bD, .string bJ, .int .i64 bX, .int .i64 bY, .int .i64 bV, .int .i64 eX, .string eY, .string UG, .slice iA dB.length gZ, .slice O7 zV.length OW, .int .i64 H7, .slice NS yX.length PY]] ?_; (with_reducible refine (iL.calls _ _ _ _ _ _ _ _ _ _ _ _ _ _ _ _ _ _ _ _ _ _ _ _ _ _ _ _ _ _ _ _ _ _ _ _ _ _ _ (cb_ iR HB) iZ.out (cb_ zC HB) zK.out (cb_ AV HB) zA.out (cb_ oP HB) oL.out (cb_ aJC HB) aJD.out (cb_ aJI HB) aJW.out A4.out).mono ?_); rintro e w22 ⟨rfl, hb⟩; refine ⟨_, rfl, ?_⟩; replace kC := aAt kC hb; replace sW := aAt sW hb; replace HB := bs_ hb; (try clear hb); obtain ⟨tC, sH, sQ, yO, yK, xO, yS, WX, WK, X0, OO, PG, c3R, cJH, c3I, sK, sV, sS, xM, yQ, xK, yM, WT, X4, WC, QD, OM, c7S, cFW, cDD⟩ := aHm kC; obtain ⟨SC, OA, PM, V8, UR, WA, VP, aR5, aTR, aP7, aIH, aD5, c9H, c8A, c5L, QW, P6, PN, XK, V7, UZ, VR, aM4, aSK, aX4, aDM, aGQ, cIB, cH9, cBX⟩ := aHm sW) | ((with_reducible refine aAa (f := 54) rfl ?_); refine aBh (some 20) Tryz.func54 #[.agg #[.int .i64 jA, .slice kM gK.length kP], .agg #[.int .i64 K9, .slice U5 BM.length U3]] ?_; (with_reducible refine (kV.calls _ _ _ _ _ _ _ _ _ _ _ (cb_ IZ HB) J7.out (cb_ b44 HB) b5F.out A6.out).mono ?_); rintro e w25 ⟨rfl, hb⟩; refine ⟨_, rfl, ?_⟩; replace kC := aAt kC hb; replace sW := aAt sW hb; replace HB := bs_ hb; (try clear hb)))
    go_ret
    exact ⟨er_, bb_⟩
  ·replace c5 := Bool.eq_false_iff.mpr c5
   subst c5; replace H := aZf H; obtain rfl := Option.some.inj H
   go_enter Tryz.func44, Tryz.ntmps44
   go_wp2_with (first | ((with_reducible refine aAc (N := 2) rfl ?_); refine bx_ 2 #[.string aA, .int .i64 aD, .string aH, .int .i64 aK, .int .i64 aJ, .int .i64 aI, .int .i64 bC, .string bB, .string lQ, .slice bZ aV.length cB, .slice kG fT.length kE, .int .i64 iQ, .slice kH fU.length kF, .int .i64 jA, .slice kM gK.length kP] 83 ?_; intro b9F hg w26 hbox hb; have kC := am_ (hbox); have b6Q := gw_ hg; replace HB := bs_ hb; clear hb hbox hg) | ((with_reducible refine aAc (N := 3) rfl ?_); refine bx_ 3 #[.string aX, .int .i64 bD, .string bJ, .int .i64 bX, .int .i64 bY, .int .i64 bV, .int .i64 eX, .string eY, .string UG, .slice iA dB.length gZ, .slice O7 zV.length OW, .int .i64 H7, .slice NS yX.length PY, .int .i64 K9, .slice U5 BM.length U3] 83 ?_; intro b25 hg w27 hbox hb; have sW := am_ (hbox); have b0K := gw_ hg; have uM := nl_ hg kC; have uT := ng_ hg kC; replace kC := aAt kC hb; replace HB := bs_ hb; clear hb hbox hg; have dAW := uM.out; have d9D := uT.out; obtain ⟨aB9, a5R, a9V, aBC, a5Y, a4D, aBH, cN6, cZ9, cUA, cFM, cFK, cDM, c9R, cEM, a2N, a8K, aBF, aBG, a96, a7F, a1Y, cN5, cZ5, d1W, cCI, c8S, cI3, c9F, cME⟩ := aHm kC; obtain ⟨UO, UL, VH, UX, VU, VG, VK, WW, UT, VB, Q0, RU, cF6, cIM, cIK, XG, UQ, WP, XH, VF, WO, UN, UW, VS, VX, R7, PZ, cAZ, cE2, c3V⟩ := aHm sW) | ((with_reducible refine aAa (f := 12) rfl ?_); refine aBh (some 14) Tryz.func12 #[.agg #[.int .i64 aD, .string aH, .int .i64 aK, .int .i64 aJ, .int .i64 aI, .int .i64 bC, .string bB, .string lQ, .slice bZ aV.length cB, .slice kG fT.length kE, .int .i64 iQ, .slice kH fU.length kF], .agg #[.int .i64 bD, .string bJ, .int .i64 bX, .int .i64 bY, .int .i64 bV, .int .i64 eX, .string eY, .string UG, .slice iA dB.length gZ, .slice O7 zV.length OW, .int .i64 H7, .slice NS yX.length PY]] ?_; (with_reducible refine (iL.calls _ _ _ _ _ _ _ _ _ _ _ _ _ _ _ _ _ _ _ _ _ _ _ _ _ _ _ _ _ _ _ _ _ _ _ _ _ _ _ (cb_ iR HB) iZ.out (cb_ zC HB) zK.out (cb_ AV HB) zA.out (cb_ oP HB) oL.out (cb_ aJC HB) aJD.out (cb_ aJI HB) aJW.out A4.out).mono ?_); rintro e w31 ⟨rfl, hb⟩; refine ⟨_, rfl, ?_⟩; replace kC := aAt kC hb; replace sW := aAt sW hb; replace HB := bs_ hb; (try clear hb)))
   go_ret
   exact ⟨er_, bb_⟩
 ·rw [if_neg c3] at H
  have fC : (aA.toList == aX.toList) = false := beq_eq_false_iff_ne.mpr c3; have lI : (aA.toList != aX.toList) = true := bne_iff_ne.mpr c3; obtain rfl := Option.some.inj H
  go_enter Tryz.func44, Tryz.ntmps44
  go_wp2_with (first | ((with_reducible refine aAc (N := 2) rfl ?_); refine bx_ 2 #[.string aA, .int .i64 aD, .string aH, .int .i64 aK, .int .i64 aJ, .int .i64 aI, .int .i64 bC, .string bB, .string lQ, .slice bZ aV.length cB, .slice kG fT.length kE, .int .i64 iQ, .slice kH fU.length kF, .int .i64 jA, .slice kM gK.length kP] 83 ?_; intro b9F hg w32 hbox hb; have kC := am_ (hbox); have b6Q := gw_ hg; replace HB := bs_ hb; clear hb hbox hg) | ((with_reducible refine aAc (N := 3) rfl ?_); refine bx_ 3 #[.string aX, .int .i64 bD, .string bJ, .int .i64 bX, .int .i64 bY, .int .i64 bV, .int .i64 eX, .string eY, .string UG, .slice iA dB.length gZ, .slice O7 zV.length OW, .int .i64 H7, .slice NS yX.length PY, .int .i64 K9, .slice U5 BM.length U3] 83 ?_; intro b25 hg w33 hbox hb; have sW := am_ (hbox); have b0K := gw_ hg; have uM := nl_ hg kC; have uT := ng_ hg kC; replace kC := aAt kC hb; replace HB := bs_ hb; clear hb hbox hg; have d7U := uM.out; have dB6 := uT.out; obtain ⟨aA5, a8P, a4R, a4H, aBU, a7S, aAY, bDD, bNB, bBL, b8E, b49, cJJ, c9X, cIO, a7M, a7J, a3V, a5V, a90, a3S, a7L, bJS, bF5, bDG, b2I, b7T, c8B, cE6, cD2⟩ := aHm kC; obtain ⟨a9A, a9B, a3Q, aT2, aRV, aNZ, aQZ, bG9, bEH, bM5, b57, b7L, c84, cLN, cE7, aAF, a3X, a2K, aL4, aK7, aM5, aKV, bO4, bMY, bE8, bAI, b8P, cGE, cAG, cIX⟩ := aHm sW))
  go_ret
  exact ⟨er_, bb_⟩
def dO.l0 : Nat → List S83 → List S83 → Int → Option Bool
 | 0, _, _, _ => none
 | k + 1, x0, x1, x5 => if x5 < (x0.length : Int) then (if 0 ≤ x5 then (if x5 < (x1.length : Int) then ((wU.f k ((aAl x0 x5).f0) ((aAl x0 x5).f1.f0) ((aAl x0 x5).f1.f1) ((aAl x0 x5).f1.f2.f0) ((aAl x0 x5).f1.f2.f1) ((aAl x0 x5).f1.f2.f2.f0) ((aAl x0 x5).f1.f2.f2.f1) ((aAl x0 x5).f1.f2.f2.f2) ((aAl x0 x5).f1.f2.f3) ((aAl x0 x5).f1.f2.f4) ((aAl x0 x5).f1.f3) ((aAl x0 x5).f1.f4) ((aAl x0 x5).f1.f5) ((aAl x0 x5).f2.f0) ((aAl x0 x5).f2.f1) ((aAl x1 x5).f0) ((aAl x1 x5).f1.f0) ((aAl x1 x5).f1.f1) ((aAl x1 x5).f1.f2.f0) ((aAl x1 x5).f1.f2.f1) ((aAl x1 x5).f1.f2.f2.f0) ((aAl x1 x5).f1.f2.f2.f1) ((aAl x1 x5).f1.f2.f2.f2) ((aAl x1 x5).f1.f2.f3) ((aAl x1 x5).f1.f2.f4) ((aAl x1 x5).f1.f3) ((aAl x1 x5).f1.f4) ((aAl x1 x5).f1.f5) ((aAl x1 x5).f2.f0) ((aAl x1 x5).f2.f1)).bind fun c01 => (if c01 = true then (dO.l0 k x0 x1 (wrap64 (x5 + 1))) else (some false))) else (none)) else (none)) else (some true)
def dO.f (k : Nat) (l0 l1 : List S83) : Option Bool := if (l0.length : Int) = (l1.length : Int) then (dO.l0 k l0 l1 0) else (some false)
def dO.T6 : Bool × List (List Nat × List Nat) := (true, [([], []), ([], []), ([0, 1], [0, 1]), ([2], [2]), ([], []), ([], []), ([4, 5], [4, 5]), ([6], [6]), ([3, 7], [3, 7]), ([8], [8])])
def dO.B6 : List Nat := [0, 0, 3, 7, 0, 0, 48, 112, 255, 511]
theorem dO.BF : aEr .any (opsOf Tryz.f17 6) = dO.T6 := by kernel_rfl
theorem dO.pY : aBu dO.T6.2 dO.B6 = true := by kernel_rfl
theorem dO.calls (k : Nat) (A0 : Option Addr) (c0 : Nat) (l0 : List S83) (A1 : Option Addr) (c1 : Nat) (l1 : List S83) (r : Bool) (w : World) (hr0 : Kd.C X8 w A0 l0.length l0) (hc0 : l0.length ≤ c0) (hr1 : Kd.C X8 w A1 l1.length l1) (hc1 : l1.length ≤ c1) (h : dO.f k l0 l1 = some r) :
  Calls Tryz.prog 17 #[.slice A0 l0.length c0, .slice A1 l1.length c1] w fun e w' => e = .returned (.bool r) ∧ Below w.heap.size w w' := by
 have b6K := Tryz.underlying83
 have jY := am_ hr0
 have oQ := am_ hc0
 clear hr0 hc0
 have HR1 := am_ hr1
 have MZ := am_ hc1
 clear hr1 hc1
 have HB := am_ (Below.refl w.heap.size w)
 have H : (if (l0.length : Int) = (l1.length : Int) then (dO.l0 k l0 l1 0) else (some false)) = some r := h
 clear h
 by_cases c3 : (l0.length : Int) = (l1.length : Int)
 ·rw [if_pos c3] at H
  have fC : ((l0.length : Int) == (l1.length : Int)) = true := beq_iff_eq.mpr c3; have lI : ((l0.length : Int) != (l1.length : Int)) = false := bne_eq_false_iff_eq.mpr c3; (have IC : (l0.length == l1.length) = true := by first | simpa using c3 | (simp at c3 ⊢; omega)); clear c3; have H' := am_ H; clear H
  go_enter Tryz.func17, Tryz.ntmps17
  go_wp2
  go_loopg [5] k (fun kq v5 w' => ∃ (aC : Int), v5 = .int .i64 aC ∧ Aside0 (dO.l0 kq l0 l1 aC = some r) ∧ Aside0 (kq ≤ k) ∧ Aside0 (Below w.heap.size w w'))
  case atStart => exact ⟨(0), rs_, H', ⟨Nat.le_refl _⟩, ⟨bb_⟩⟩
  case round =>
   clear H'; (try clear c1); (try clear p2); (try clear c3); (try clear fC); (try clear lI); (try clear IC); obtain ⟨aC, rfl, HA, jK, HB⟩ := hrel
   cases gk with
   | zero => exact absurd HA.out (by simp [dO.l0])
   | succ k1 =>
    have H := HA.out; clear HA; simp only [dO.l0] at H
    by_cases c4 : aC < (l0.length : Int)
    ·rw [if_pos c4] at H
     have iB := decide_eq_true c4; clear c4
     by_cases c5 : 0 ≤ aC
     ·rw [if_pos c5] at H
      have pV := decide_eq_true c5; clear c5
      by_cases c6 : aC < (l1.length : Int)
      ·rw [if_pos c6] at H
       have mY := decide_eq_true c6; clear c6; replace H := aBp H; obtain ⟨c01, ZI, H⟩ := H
       try dsimp only at H
       have A7 := am_ ZI; clear ZI; have gY := am_ H; clear H
       try go_wp2
       replace HB := am_ (aAm HB.out); (have bTA : 0 ≤ (aC : Int) := oa_); (have bZX : aC < (l0.length : Int) := oa_); obtain ⟨d8I, bXO, bWG, bN0, bEY, bMI, bMX, bG3, bBS, d3N, aAM, a5M, a7G, a3H, a8X, a6B, aA7, a9U, aBN, aAE, ZJ, YG, ZY, YZ, XO, aVY, aKU, aIK, aC5, aFA, aFQ, aH1, aDZ⟩ := IM jY.out aC bTA bZX; cases d3N; obtain ⟨bLU, bHI, bBE, bKR, bF8, bGN, bLR, bDB, bGJ, bGC, b5H, b3A, b96, b9M, b5W⟩ := aKe HB aAM a5M a7G a3H a8X a6B aA7 a9U aBN aAE ZJ YG ZY YZ XO; have aRA := am_ aKU; have bEE := am_ aVY; clear aKU aVY; have aHA := am_ aC5; have b60 := am_ aIK; clear aC5 aIK; have aGC := am_ aFQ; have b3J := am_ aFA; clear aFQ aFA; have aGM := am_ aDZ; have b5Y := am_ aH1; clear aDZ aH1; replace bTA := eq_true bTA; replace bZX := eq_true bZX; (have c1D : 0 ≤ (aC : Int) := oa_); (have bSA : aC < (l1.length : Int) := oa_); obtain ⟨d7T, bS5, c1T, bIJ, bB4, bJ6, bLT, bFP, bHT, d3I, a5J, a4M, aBD, a8I, a2G, a9E, a3D, aAN, a3I, aAI, Z8, Y7, XU, YH, ZF, aWE, aPM, aGF, aFK, aEL, aHX, aDK, aD1⟩ := IM HR1.out aC c1D bSA; cases d3I; obtain ⟨bLV, bG4, bC4, bKE, bK6, bK7, bBD, bGZ, bAY, bE6, b4G, b1O, b3S, b1Q, b0W⟩ := aKe HB a5J a4M aBD a8I a2G a9E a3D aAN a3I aAI Z8 Y7 XU YH ZF; have aQ4 := am_ aPM; have bI4 := am_ aWE; clear aPM aWE; have aEC := am_ aFK; have b40 := am_ aGF; clear aFK aGF; have aIE := am_ aHX; have b89 := am_ aEL; clear aHX aEL; have aIC := am_ aD1; have bA6 := am_ aDK; clear aD1 aDK; replace c1D := eq_true c1D; replace bSA := eq_true bSA; (refine st_ 10 (hc_ ((hb_ HB aAM)) (hc_ ((hb_ HB a5M)) (hc_ ((hb_ HB a7G)) (hc_ ((hb_ HB a3H)) (hc_ ((hb_ HB a8X)) (hc_ ((hb_ HB a6B)) (hc_ ((hb_ HB aA7)) (hc_ ((hb_ HB a9U)) (hc_ ((hb_ HB aBN)) (hc_ ((hb_ HB aAE)) (hc_ ((hb_ HB ZJ)) (hc_ ((hb_ HB YG)) (hc_ ((hb_ HB ZY)) (hc_ ((hb_ HB YZ)) (hc_ ((hb_ HB XO)) (hc_ ((hb_ HB a5J)) (hc_ ((hb_ HB a4M)) (hc_ ((hb_ HB aBD)) (hc_ ((hb_ HB a8I)) (hc_ ((hb_ HB a2G)) (hc_ ((hb_ HB a9E)) (hc_ ((hb_ HB a3D)) (hc_ ((hb_ HB aAN)) (hc_ ((hb_ HB a3I)) (hc_ ((hb_ HB aAI)) (hc_ ((hb_ HB Z8)) (hc_ ((hb_ HB Y7)) (hc_ ((hb_ HB XU)) (hc_ ((hb_ HB YH)) (hf_ ((hb_ HB ZF)))))))))))))))))))))))))))))))) (fun hHeld => ?_); refine aAv dO.BF dO.pY (fun HT_ HW_ => ?_))
       generalize wr.drew = w9 at HB aHA aGC aGM aRA aEC aIE aIC aQ4 bLU bHI b5H b3A b96 b9M b5W bBE bKR bF8 bGN bLR bDB bGJ bGC bLV bG4 b4G b1O b3S b1Q b0W bC4 bKE bK6 bK7 bBD bGZ bAY bE6 hHeld ⊢
       iterate 3 (refine pl_ ?_)
       refine aBa 4 (bm 10 23) ?_; refine aBa 5 (bm 10 55) ?_; refine aBa 6 (bm 10 119) ?_; refine aCx 3 (tf 7 3) ?_; refine tl_ ?_; refine aCm (i := 8) (N := some 25) (tf 9 1) (h := fun K hK => ?_); refine gs_ Tryz.func44 #[.agg #[.string ((aAl l0 aC).f0), .int .i64 ((aAl l0 aC).f1.f0), .string ((aAl l0 aC).f1.f1), .int .i64 ((aAl l0 aC).f1.f2.f0), .int .i64 ((aAl l0 aC).f1.f2.f1), .int .i64 ((aAl l0 aC).f1.f2.f2.f0), .int .i64 ((aAl l0 aC).f1.f2.f2.f1), .string ((aAl l0 aC).f1.f2.f2.f2), .string ((aAl l0 aC).f1.f2.f3), .slice bXO ((aAl l0 aC).f1.f2.f4).length bWG, .slice bN0 ((aAl l0 aC).f1.f3).length bEY, .int .i64 ((aAl l0 aC).f1.f4), .slice bMI ((aAl l0 aC).f1.f5).length bMX, .int .i64 ((aAl l0 aC).f2.f0), .slice bG3 ((aAl l0 aC).f2.f1).length bBS], .agg #[.string ((aAl l1 aC).f0), .int .i64 ((aAl l1 aC).f1.f0), .string ((aAl l1 aC).f1.f1), .int .i64 ((aAl l1 aC).f1.f2.f0), .int .i64 ((aAl l1 aC).f1.f2.f1), .int .i64 ((aAl l1 aC).f1.f2.f2.f0), .int .i64 ((aAl l1 aC).f1.f2.f2.f1), .string ((aAl l1 aC).f1.f2.f2.f2), .string ((aAl l1 aC).f1.f2.f3), .slice bS5 ((aAl l1 aC).f1.f2.f4).length c1T, .slice bIJ ((aAl l1 aC).f1.f3).length bB4, .int .i64 ((aAl l1 aC).f1.f4), .slice bJ6 ((aAl l1 aC).f1.f5).length bLT, .int .i64 ((aAl l1 aC).f2.f0), .slice bFP ((aAl l1 aC).f2.f1).length bHT]] ?_; (with_reducible refine (wU.calls _ _ _ _ _ _ _ _ _ _ _ _ _ _ _ _ _ _ _ _ _ _ _ _ _ _ _ _ _ _ _ _ _ _ _ _ _ _ _ _ _ _ _ _ _ _ _ _ _ (cb_ aRA HB) bEE.out (cb_ aHA HB) b60.out (cb_ aGC HB) b3J.out (cb_ aGM HB) b5Y.out (cb_ aQ4 HB) bI4.out (cb_ aEC HB) b40.out (cb_ aIE HB) b89.out (cb_ aIC HB) bA6.out A7.out).mono ?_); rintro e w10 ⟨rfl, hb⟩; refine ⟨_, rfl, ?_⟩; replace HB := bs_ hb; (try clear hb); refine hK.out _ _ (hc_ (hb_ HB aAM) (hc_ (hb_ HB a5M) (hc_ (hb_ HB a7G) (hc_ (hb_ HB a3H) (hc_ (hb_ HB a8X) (hc_ (hb_ HB a6B) (hc_ (hb_ HB aA7) (hc_ (hb_ HB a9U) (hc_ (hb_ HB aBN) (hc_ (hb_ HB aAE) (hc_ (hb_ HB ZJ) (hc_ (hb_ HB YG) (hc_ (hb_ HB ZY) (hc_ (hb_ HB YZ) (hc_ (hb_ HB XO) (hc_ (hb_ HB a5J) (hc_ (hb_ HB a4M) (hc_ (hb_ HB aBD) (hc_ (hb_ HB a8I) (hc_ (hb_ HB a2G) (hc_ (hb_ HB a9E) (hc_ (hb_ HB a3D) (hc_ (hb_ HB aAN) (hc_ (hb_ HB a3I) (hc_ (hb_ HB aAI) (hc_ (hb_ HB Z8) (hc_ (hb_ HB Y7) (hc_ (hb_ HB XU) (hc_ (hb_ HB YH) (hf_ (hb_ HB ZF))))))))))))))))))))))))))))))) (fun hHeld => ?_)
       clear hK K; refine nm_ ?_; refine aBa 9 (tf 10 0) ?_; have H := gY.out; clear gY
       by_cases c8 : c01 = true
       ·subst c8
        rw [if_pos rfl] at H; have H' := am_ H; clear H; refine dn_ ?_
        try go_wp2
        go_roundg k1
        case measure => have := jK.out; omega
        case rel => exact ⟨(wrap64 (aC + 1)), rs_, H', ⟨by have := jK.out; omega⟩, ⟨bb_⟩⟩
       ·replace c8 := Bool.eq_false_iff.mpr c8
        subst c8; replace H := aZf H; obtain rfl := Option.some.inj H; refine dn_ ?_
        try go_wp2
        go_ret
        exact ⟨er_, bb_⟩
      ·rw [if_neg c6] at H
       exact nn_ H
     ·rw [if_neg c5] at H
      exact nn_ H
    ·rw [if_neg c4] at H
     have iB := decide_eq_false c4; clear c4; obtain rfl := Option.some.inj H
     go_wp2
     go_ret
     exact ⟨er_, bb_⟩
 ·rw [if_neg c3] at H
  have fC : ((l0.length : Int) == (l1.length : Int)) = false := beq_eq_false_iff_ne.mpr c3; have lI : ((l0.length : Int) != (l1.length : Int)) = true := bne_iff_ne.mpr c3; (have IC : (l0.length == l1.length) = false := by first | simpa using c3 | (simp at c3 ⊢; omega)); obtain rfl := Option.some.inj H
  go_enter Tryz.func17, Tryz.ntmps17
  go_wp2
  go_ret
  exact ⟨er_, bb_⟩

def aCq.f (k : Nat) (l0 : List S59) (l1 : List S79) : Option Bool := (gQ.f k l0 1048576).bind fun a6W => (if a6W < 0 then (some true) else ((gF.f k l1 a6W).bind fun b63 => (if b63 < 0 then (some true) else ((eU.f k l0).bind fun b0V => ((dV.f k l1).bind fun b3Q => ((bR.f k b0V b3Q).bind fun aHJ => ((eU.f k l0).bind fun aG3 => ((dV.f k l1).bind fun aGW => ((nK.f k aG3 aGW).bind fun aCN => (if (aCN != aHJ) = true then (none) else ((eU.f k l0).bind fun b8C => ((eD.f k aG3 b8C).bind fun b73 => (if b73 = true then ((dV.f k l1).bind fun b7C => ((dO.f k aGW b7C).bind fun b8D => (if b8D = true then (some true) else (none)))) else (none))))))))))))))
theorem aCq.calls (k : Nat) (A0 : Option Addr) (c0 : Nat) (l0 : List S59) (A1 : Option Addr) (c1 : Nat) (l1 : List S79) (r : Bool) (w : World) (hr0 : Kd.C k59 w A0 l0.length l0) (hc0 : l0.length ≤ c0) (hr1 : Kd.C k79 w A1 l1.length l1) (hc1 : l1.length ≤ c1) (h : aCq.f k l0 l1 = some r) :
  Calls Tryz.prog 4 #[.slice A0 l0.length c0, .slice A1 l1.length c1] w fun e w' => e = .returned (.bool r) ∧ Below w.heap.size w w' := by
 have jY := am_ hr0
 have oQ := am_ hc0
 clear hr0 hc0
 have HR1 := am_ hr1
 have MZ := am_ hc1
 clear hr1 hc1
 have HB := am_ (Below.refl w.heap.size w)
 have H : ((gQ.f k l0 1048576).bind fun a6W => (if a6W < 0 then (some true) else ((gF.f k l1 a6W).bind fun b63 => (if b63 < 0 then (some true) else ((eU.f k l0).bind fun b0V => ((dV.f k l1).bind fun b3Q => ((bR.f k b0V b3Q).bind fun aHJ => ((eU.f k l0).bind fun aG3 => ((dV.f k l1).bind fun aGW => ((nK.f k aG3 aGW).bind fun aCN => (if (aCN != aHJ) = true then (none) else ((eU.f k l0).bind fun b8C => ((eD.f k aG3 b8C).bind fun b73 => (if b73 = true then ((dV.f k l1).bind fun b7C => ((dO.f k aGW b7C).bind fun b8D => (if b8D = true then (some true) else (none)))) else (none))))))))))))))) = some r := h
 clear h
 replace H := aBp H
 obtain ⟨a6W, wN, H⟩ := H
 try dsimp only at H
 have A3 := am_ wN
 clear wN
 by_cases c4 : a6W < 0
 ·rw [if_pos c4] at H
  have iB := decide_eq_true c4; clear c4; obtain rfl := Option.some.inj H
  go_enter Tryz.func4, Tryz.ntmps4
  go_wp2_with (first | ((with_reducible refine aAa (f := 5) rfl ?_); refine aBh (some 12) Tryz.func5 #[.slice A0 l0.length c0, .int .i64 1048576] ?_; (with_reducible refine (gQ.calls _ _ _ _ _ _ _ (ck_ jY.out) oQ.out A3.out).mono ?_); rintro e w5 ⟨rfl, hb⟩; refine ⟨_, rfl, ?_⟩; replace HB := bs_ hb; (try clear hb)))
  go_ret
  exact ⟨er_, bb_⟩
 ·rw [if_neg c4] at H
  have iB := decide_eq_false c4; clear c4; replace H := aBp H; obtain ⟨b63, D6, H⟩ := H
  try dsimp only at H
  have A6 := am_ D6; clear D6
  by_cases c7 : b63 < 0
  ·rw [if_pos c7] at H
   have iV := decide_eq_true c7; clear c7; obtain rfl := Option.some.inj H
   go_enter Tryz.func4, Tryz.ntmps4
   go_wp2_with (first | ((with_reducible refine aAa (f := 5) rfl ?_); refine aBh (some 12) Tryz.func5 #[.slice A0 l0.length c0, .int .i64 1048576] ?_; (with_reducible refine (gQ.calls _ _ _ _ _ _ _ (ck_ jY.out) oQ.out A3.out).mono ?_); rintro e w8 ⟨rfl, hb⟩; refine ⟨_, rfl, ?_⟩; replace HB := bs_ hb; (try clear hb)) | ((with_reducible refine aAa (f := 13) rfl ?_); refine aBh (some 17) Tryz.func13 #[.slice A1 l1.length c1, .int .i64 a6W] ?_; (with_reducible refine (gF.calls _ _ _ _ _ _ _ (cb_ HR1 HB) MZ.out A6.out).mono ?_); rintro e w9 ⟨rfl, hb⟩; refine ⟨_, rfl, ?_⟩; replace HB := bs_ hb; (try clear hb)))
   go_ret
   exact ⟨er_, bb_⟩
  ·rw [if_neg c7] at H
   have iV := decide_eq_false c7; clear c7; replace H := aBp H; obtain ⟨b0V, aHP, H⟩ := H
   try dsimp only at H
   have RJ := am_ aHP; clear aHP; replace H := aBp H; obtain ⟨b3Q, N7, H⟩ := H
   try dsimp only at H
   have MX := am_ N7; clear N7; replace H := aBp H; obtain ⟨aHJ, HY, H⟩ := H
   try dsimp only at H
   have KZ := am_ HY; clear HY; replace H := aBp H; obtain ⟨aG3, aI2, H⟩ := H
   try dsimp only at H
   have A13 := am_ aI2; clear aI2; replace H := aBp H; obtain ⟨aGW, aEI, H⟩ := H
   try dsimp only at H
   have SH := am_ aEI; clear aEI; replace H := aBp H; obtain ⟨aCN, a00, H⟩ := H
   try dsimp only at H
   have A15 := am_ a00; clear a00
   by_cases c16 : (aCN != aHJ) = true
   ·rw [if_pos c16] at H
    exact nn_ H
   ·rw [if_neg c16] at H
    (have GY : (aCN != aHJ) = false := by simpa using c16); (try (have aIL : decide (aCN = aHJ) = true := by simpa using c16)); (try (have d7W : (aCN == aHJ) = true := by simpa using c16)); clear c16; replace H := aBp H; obtain ⟨b8C, b6W, H⟩ := H
    try dsimp only at H
    have A17 := am_ b6W; clear b6W; replace H := aBp H; obtain ⟨b73, b2O, H⟩ := H
    try dsimp only at H
    have A18 := am_ b2O; clear b2O
    by_cases c19 : b73 = true
    ·subst c19
     rw [if_pos rfl] at H; replace H := aBp H; obtain ⟨b7C, b8G, H⟩ := H
     try dsimp only at H
     have BB := am_ b8G; clear b8G; replace H := aBp H; obtain ⟨b8D, b5U, H⟩ := H
     try dsimp only at H
     have A21 := am_ b5U; clear b5U
     by_cases NK : b8D = true
     ·subst NK
      rw [if_pos rfl] at H; obtain rfl := Option.some.inj H
      go_enter Tryz.func4, Tryz.ntmps4
      go_wp2_with (first | ((with_reducible refine aAa (f := 5) rfl ?_); refine aBh (some 12) Tryz.func5 #[.slice A0 l0.length c0, .int .i64 1048576] ?_; (with_reducible refine (gQ.calls _ _ _ _ _ _ _ (ck_ jY.out) oQ.out A3.out).mono ?_); rintro e w23 ⟨rfl, hb⟩; refine ⟨_, rfl, ?_⟩; replace HB := bs_ hb; (try clear hb)) | ((with_reducible refine aAa (f := 13) rfl ?_); refine aBh (some 17) Tryz.func13 #[.slice A1 l1.length c1, .int .i64 a6W] ?_; (with_reducible refine (gF.calls _ _ _ _ _ _ _ (cb_ HR1 HB) MZ.out A6.out).mono ?_); rintro e w24 ⟨rfl, hb⟩; refine ⟨_, rfl, ?_⟩; replace HB := bs_ hb; (try clear hb)) | ((with_reducible refine aAa (f := 8) rfl ?_); refine aBh (some 21) Tryz.func8 #[.slice A0 l0.length c0] ?_; (with_reducible refine (eU.calls _ _ _ _ _ _ (cb_ jY HB) oQ.out RJ.out).mono ?_); rintro e w25 ⟨dCP, rfl, ho0, hb⟩; refine ⟨_, rfl, ?_⟩; have oN := am_ (Kd.aBc ho0 (aAj bb_)); replace HB := bs_ hb; clear hb ho0) | ((with_reducible refine aAa (f := 15) rfl ?_); refine aBh (some 23) Tryz.func15 #[.slice A1 l1.length c1] ?_; (with_reducible refine (dV.calls _ _ _ _ _ _ (cb_ HR1 HB) MZ.out MX.out).mono ?_); rintro e w26 ⟨dCQ, rfl, ho0, hb⟩; refine ⟨_, rfl, ?_⟩; have qJ := am_ (Kd.aBc ho0 (aAj bb_)); replace oN := am_ (Kd.aAs (rk_ oN.out) hb); replace HB := bs_ hb; clear hb ho0; obtain ⟨d6O, d6S, d6N⟩ := Kd.aBj oN.out; subst d6N; obtain ⟨d6Q, d40, d2J⟩ := Kd.aBj qJ.out; subst d2J) | ((with_reducible refine aAa (f := 14) rfl ?_); refine aBh (some 24) Tryz.func14 #[.slice d6O b0V.length d6S, .slice d6Q b3Q.length d40] ?_; (with_reducible refine (bR.calls _ _ _ _ _ _ _ _ _ (ck_ (Kd.aAr oN.out).2.2) ((Kd.aAr oN.out).2.1) (ck_ (Kd.aAr qJ.out).2.2) ((Kd.aAr qJ.out).2.1) KZ.out).mono ?_); rintro e w29 ⟨rfl, hb⟩; refine ⟨_, rfl, ?_⟩; replace oN := am_ (Kd.aAs (rk_ oN.out) hb); replace qJ := am_ (Kd.aAs (rk_ qJ.out) hb); replace HB := bs_ hb; (try clear hb)) | ((with_reducible refine aAa (f := 8) rfl ?_); refine aBh (some 26) Tryz.func8 #[.slice A0 l0.length c0] ?_; (with_reducible refine (eU.calls _ _ _ _ _ _ (cb_ jY HB) oQ.out A13.out).mono ?_); rintro e w30 ⟨dCJ, rfl, ho0, hb⟩; refine ⟨_, rfl, ?_⟩; have uJ := am_ (Kd.aBc (Kd.aDv ho0 (Kd.aHf (rk_ oN.out))) (aAj bb_)); replace oN := am_ (Kd.aCi (rk_ oN.out) (Kd.aCn ho0) hb); replace qJ := am_ (Kd.aAs (rk_ qJ.out) hb); replace HB := bs_ hb; clear hb ho0) | ((with_reducible refine aAa (f := 15) rfl ?_); refine aBh (some 28) Tryz.func15 #[.slice A1 l1.length c1] ?_; (with_reducible refine (dV.calls _ _ _ _ _ _ (cb_ HR1 HB) MZ.out SH.out).mono ?_); rintro e w31 ⟨dC9, rfl, ho0, hb⟩; refine ⟨_, rfl, ?_⟩; have xJ := am_ (Kd.aBc (Kd.aDv ho0 (Kd.aHf (rk_ qJ.out))) (aAj bb_)); replace oN := am_ (Kd.aAs (rk_ oN.out) hb); replace qJ := am_ (Kd.aCi (rk_ qJ.out) (Kd.aCn ho0) hb); replace uJ := am_ (Kd.aAs (rk_ uJ.out) hb); replace HB := bs_ hb; clear hb ho0; obtain ⟨cKA, c50, d22⟩ := Kd.aBj uJ.out; subst d22; obtain ⟨bYO, aYV, bXR⟩ := Kd.aBj xJ.out; subst bXR) | ((with_reducible refine aAa (f := 16) rfl ?_); refine aBh (some 31) Tryz.func16 #[.slice cKA aG3.length c50, .slice bYO aGW.length aYV] ?_; (with_reducible refine (nK.calls _ _ _ _ _ _ _ _ _ (ck_ (Kd.aAr uJ.out).2.2) ((Kd.aAr uJ.out).2.1) (ck_ (Kd.aAr xJ.out).2.2) ((Kd.aAr xJ.out).2.1) A15.out).mono ?_); rintro e w34 ⟨rfl, hb⟩; refine ⟨_, rfl, ?_⟩; replace oN := am_ (Kd.aAs (rk_ oN.out) hb); replace qJ := am_ (Kd.aAs (rk_ qJ.out) hb); replace uJ := am_ (Kd.aAs (rk_ uJ.out) hb); replace xJ := am_ (Kd.aAs (rk_ xJ.out) hb); replace HB := bs_ hb; (try clear hb)) | ((with_reducible refine aAa (f := 8) rfl ?_); refine aBh (some 37) Tryz.func8 #[.slice A0 l0.length c0] ?_; (with_reducible refine (eU.calls _ _ _ _ _ _ (cb_ jY HB) oQ.out A17.out).mono ?_); rintro e w35 ⟨dCC, rfl, ho0, hb⟩; refine ⟨_, rfl, ?_⟩; have OQ := am_ (Kd.aBc (Kd.aDv (Kd.aDv ho0 (Kd.aHf (rk_ oN.out))) (Kd.aHf (rk_ uJ.out))) (aAj bb_)); replace oN := am_ (Kd.aCi (rk_ oN.out) (Kd.aCn ho0) hb); replace qJ := am_ (Kd.aAs (rk_ qJ.out) hb); replace uJ := am_ (Kd.aCi (rk_ uJ.out) (Kd.aCn ho0) hb); replace xJ := am_ (Kd.aAs (rk_ xJ.out) hb); replace HB := bs_ hb; clear hb ho0; obtain ⟨d30, d3F, d6Z⟩ := Kd.aBj OQ.out; subst d6Z) | ((with_reducible refine aAa (f := 11) rfl ?_); refine aBh (some 38) Tryz.func11 #[.slice cKA aG3.length c50, .slice d30 b8C.length d3F] ?_; (with_reducible refine (eD.calls _ _ _ _ _ _ _ _ _ (ck_ (Kd.aAr uJ.out).2.2) ((Kd.aAr uJ.out).2.1) (ck_ (Kd.aAr OQ.out).2.2) ((Kd.aAr OQ.out).2.1) A18.out).mono ?_); rintro e w37 ⟨rfl, hb⟩; refine ⟨_, rfl, ?_⟩; replace oN := am_ (Kd.aAs (rk_ oN.out) hb); replace qJ := am_ (Kd.aAs (rk_ qJ.out) hb); replace uJ := am_ (Kd.aAs (rk_ uJ.out) hb); replace xJ := am_ (Kd.aAs (rk_ xJ.out) hb); replace OQ := am_ (Kd.aAs (rk_ OQ.out) hb); replace HB := bs_ hb; (try clear hb)) | ((with_reducible refine aAa (f := 15) rfl ?_); refine aBh (some 42) Tryz.func15 #[.slice A1 l1.length c1] ?_; (with_reducible refine (dV.calls _ _ _ _ _ _ (cb_ HR1 HB) MZ.out BB.out).mono ?_); rintro e w38 ⟨dDF, rfl, ho0, hb⟩; refine ⟨_, rfl, ?_⟩; have aCA := am_ (Kd.aBc (Kd.aDv (Kd.aDv ho0 (Kd.aHf (rk_ qJ.out))) (Kd.aHf (rk_ xJ.out))) (aAj bb_)); replace oN := am_ (Kd.aAs (rk_ oN.out) hb); replace qJ := am_ (Kd.aCi (rk_ qJ.out) (Kd.aCn ho0) hb); replace uJ := am_ (Kd.aAs (rk_ uJ.out) hb); replace xJ := am_ (Kd.aCi (rk_ xJ.out) (Kd.aCn ho0) hb); replace OQ := am_ (Kd.aAs (rk_ OQ.out) hb); replace HB := bs_ hb; clear hb ho0; obtain ⟨d41, d3Q, d4W⟩ := Kd.aBj aCA.out; subst d4W) | ((with_reducible refine aAa (f := 17) rfl ?_); refine aBh (some 43) Tryz.func17 #[.slice bYO aGW.length aYV, .slice d41 b7C.length d3Q] ?_; (with_reducible refine (dO.calls _ _ _ _ _ _ _ _ _ (ck_ (Kd.aAr xJ.out).2.2) ((Kd.aAr xJ.out).2.1) (ck_ (Kd.aAr aCA.out).2.2) ((Kd.aAr aCA.out).2.1) A21.out).mono ?_); rintro e w40 ⟨rfl, hb⟩; refine ⟨_, rfl, ?_⟩; replace oN := am_ (Kd.aAs (rk_ oN.out) hb); replace qJ := am_ (Kd.aAs (rk_ qJ.out) hb); replace uJ := am_ (Kd.aAs (rk_ uJ.out) hb); replace xJ := am_ (Kd.aAs (rk_ xJ.out) hb); replace OQ := am_ (Kd.aAs (rk_ OQ.out) hb); replace aCA := am_ (Kd.aAs (rk_ aCA.out) hb); replace HB := bs_ hb; (try clear hb)))
      go_ret
      exact ⟨er_, bb_⟩
     ·replace NK := Bool.eq_false_iff.mpr NK
      subst NK; replace H := aZf H; exact nn_ H
    ·replace c19 := Bool.eq_false_iff.mpr c19
     subst c19; replace H := aZf H; exact nn_ H
end Go.Proofs.YtnobhkmpkichdaaGreat.PFnExactViewsOk
